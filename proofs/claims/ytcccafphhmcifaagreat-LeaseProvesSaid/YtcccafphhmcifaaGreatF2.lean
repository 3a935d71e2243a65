/- The code of functions of the program, in the small instruction set; each is what the translation makes of it. -/
import Derived.Test.YtcccafphhmcifaaGreatIds
set_option linter.unusedVariables false
set_option maxRecDepth 100000
namespace Go.Proofs.YtcccafphhmcifaaGreat
open Go Go.Abs
/-! 82 fumarole/lease.Split$1 -/
def f_lease_Split_1_r0 : List Abs.Op := [
  ⟨some 1, none, false, .boxi (.t 0)⟩,
  ⟨some 2, none, false, .mv (.c (.int .i64 0))⟩]

def f_lease_Split_1_r1 : List Abs.Op := [
  ⟨some 3, none, false, .fadr 1 (.t 1)⟩,
  ⟨some 4, none, false, .ld false 1 (.t 3)⟩,
  ⟨some 2, none, false, .mv (.t 4)⟩]

def a_lease_Split_1 : Ann := ⟨[(1, [2]), (0, [1])], [], [], [], [], [], [], [], [], []⟩
def f_lease_Split_1 : Abs.Fn := ⟨1, [.t 2],
  (.seq (.reg [1] f_lease_Split_1_r0) (.seq (.reg [2] f_lease_Split_1_r1) .ret))⟩

theorem e_lease_Split_1_r0 : type_of% f_lease_Split_1_r0.eq_1 := by_rfl f_lease_Split_1_r0.eq_1
theorem e_lease_Split_1_r1 : type_of% f_lease_Split_1_r1.eq_1 := by_rfl f_lease_Split_1_r1.eq_1
theorem e_lease_Split_1 : type_of% f_lease_Split_1.eq_1 := by_rfl f_lease_Split_1.eq_1
theorem ok_lease_Split_1 : fnC Tryz.prog a_lease_Split_1 Tryz.f82 = some f_lease_Split_1 := by kernel_rfl

/-! 84 fumarole/lease.all[fumarole/lease.Year] -/
def f_lease_all_lease_Year_r0 : List Abs.Op := [
  ⟨some 3, none, false, .boxi (.t 1)⟩,
  ⟨some 4, none, false, .mv (.c (.bool false))⟩]

def f_lease_all_lease_Year_r1 : List Abs.Op := [
  ⟨some 5, none, false, .mv (.t 0)⟩,
  ⟨some 6, none, false, .mkf i_lease_all_lease_Year_1 [] [(.t 3)]⟩,
  ⟨some 7, none, false, .call false (.c (.fn i_slices_ContainsFunc_lease_Year [] [])) [(.t 5), (.t 6)]⟩,
  ⟨some 8, none, false, .un .not (.t 7)⟩,
  ⟨some 4, none, false, .mv (.t 8)⟩]

def a_lease_all_lease_Year : Ann := ⟨[(1, [4]), (0, [0, 3])], [], [], [], [], [], [], [], [], []⟩
def f_lease_all_lease_Year : Abs.Fn := ⟨2, [.t 4],
  (.seq (.reg [0, 3] f_lease_all_lease_Year_r0) (.seq (.reg [4] f_lease_all_lease_Year_r1) .ret))⟩

theorem e_lease_all_lease_Year_r0 : type_of% f_lease_all_lease_Year_r0.eq_1 := by_rfl f_lease_all_lease_Year_r0.eq_1
theorem e_lease_all_lease_Year_r1 : type_of% f_lease_all_lease_Year_r1.eq_1 := by_rfl f_lease_all_lease_Year_r1.eq_1
theorem e_lease_all_lease_Year : type_of% f_lease_all_lease_Year.eq_1 := by_rfl f_lease_all_lease_Year.eq_1
theorem ok_lease_all_lease_Year : fnC Tryz.prog a_lease_all_lease_Year Tryz.f84 = some f_lease_all_lease_Year := by kernel_rfl

/-! 85 (fumarole/lease.Programme).valid$1 -/
def f_lease_Programme_valid_1_r0 : List Abs.Op := [
  ⟨some 1, none, false, .boxi (.t 0)⟩,
  ⟨some 2, none, false, .mv (.c (.bool false))⟩]

def f_lease_Programme_valid_1_r1 : List Abs.Op := [
  ⟨some 3, none, false, .fadr 0 (.t 1)⟩,
  ⟨some 4, none, false, .ld false 1 (.t 3)⟩,
  ⟨some 5, none, false, .call false (.c (.fn i_lease_within [] [])) [(.t 4), (.c (.int .i64 0)), (.c (.int .i64 30000000))]⟩,
  ⟨some 6, none, false, .mv (.t 5)⟩,
  ⟨some 7, some (6, true), false, .fadr 1 (.t 1)⟩,
  ⟨some 8, some (6, true), false, .ld false 1 (.t 7)⟩,
  ⟨some 9, some (6, true), false, .call false (.c (.fn i_lease_within [] [])) [(.t 8), (.c (.int .i64 0)), (.c (.int .i64 1000000))]⟩,
  ⟨some 10, none, false, .pick (.t 6) (.t 9) (.c (.bool false))⟩,
  ⟨some 2, none, false, .mv (.t 10)⟩]

def a_lease_Programme_valid_1 : Ann := ⟨[(1, [2]), (0, [1])], [], [], [], [], [], [], [], [], []⟩
def f_lease_Programme_valid_1 : Abs.Fn := ⟨1, [.t 2],
  (.seq (.reg [1] f_lease_Programme_valid_1_r0) (.seq (.reg [2] f_lease_Programme_valid_1_r1) .ret))⟩

theorem e_lease_Programme_valid_1_r0 : type_of% f_lease_Programme_valid_1_r0.eq_1 := by_rfl f_lease_Programme_valid_1_r0.eq_1
theorem e_lease_Programme_valid_1_r1 : type_of% f_lease_Programme_valid_1_r1.eq_1 := by_rfl f_lease_Programme_valid_1_r1.eq_1
theorem e_lease_Programme_valid_1 : type_of% f_lease_Programme_valid_1.eq_1 := by_rfl f_lease_Programme_valid_1.eq_1
theorem ok_lease_Programme_valid_1 : fnC Tryz.prog a_lease_Programme_valid_1 Tryz.f85 = some f_lease_Programme_valid_1 := by kernel_rfl

/-! 86 (fumarole/lease.work).ladders -/
def f_lease_work_ladders_r0 : List Abs.Op := [
  ⟨some 1, none, false, .boxi (.t 0)⟩,
  ⟨some 2, none, false, .mv (.c .nilf)⟩]

def f_lease_work_ladders_r1 : List Abs.Op := [
  ⟨some 3, none, false, .mkf i_lease_work_ladders_1 [] [(.t 1)]⟩,
  ⟨some 2, none, false, .mv (.t 3)⟩]

def a_lease_work_ladders : Ann := ⟨[(1, [2]), (0, [1])], [], [], [], [], [], [], [], [], []⟩
def f_lease_work_ladders : Abs.Fn := ⟨1, [.t 2],
  (.seq (.reg [1] f_lease_work_ladders_r0) (.seq (.reg [2] f_lease_work_ladders_r1) .ret))⟩

theorem e_lease_work_ladders_r0 : type_of% f_lease_work_ladders_r0.eq_1 := by_rfl f_lease_work_ladders_r0.eq_1
theorem e_lease_work_ladders_r1 : type_of% f_lease_work_ladders_r1.eq_1 := by_rfl f_lease_work_ladders_r1.eq_1
theorem e_lease_work_ladders : type_of% f_lease_work_ladders.eq_1 := by_rfl f_lease_work_ladders.eq_1
theorem ok_lease_work_ladders : fnC Tryz.prog a_lease_work_ladders Tryz.f86 = some f_lease_work_ladders := by kernel_rfl

/-! 87 slices.BinarySearchFunc[fumarole/lease.ladder,fumarole/lease.Rung,int] -/
def f_slices_BinarySearchFunc_lease_ladder_lease_Rung_int_r0 : List Abs.Op := [
  ⟨some 6, none, false, .mv (.c (.int .i64 0))⟩,
  ⟨some 7, none, false, .mv (.c (.bool false))⟩]

def f_slices_BinarySearchFunc_lease_ladder_lease_Rung_int_r1 : List Abs.Op := [
  ⟨some 12, none, false, .mv (.t 0)⟩,
  ⟨some 13, none, false, .lenS (.t 12)⟩,
  ⟨some 8, none, false, .mv (.t 13)⟩]

def f_slices_BinarySearchFunc_lease_ladder_lease_Rung_int_r2 : List Abs.Op := [
  ⟨some 14, none, false, .mv (.t 8)⟩,
  ⟨some 9, none, false, .mv (.c (.int .i64 0))⟩,
  ⟨some 10, none, false, .mv (.t 14)⟩]

def f_slices_BinarySearchFunc_lease_ladder_lease_Rung_int_r3 : List Abs.Op := [
  ⟨some 15, none, false, .mv (.t 9)⟩,
  ⟨some 16, none, false, .mv (.t 10)⟩,
  ⟨some 17, none, false, .bin .lss (.t 15) (.t 16)⟩]

def f_slices_BinarySearchFunc_lease_ladder_lease_Rung_int_r4 : List Abs.Op := [
  ⟨some 18, none, false, .mv (.t 9)⟩,
  ⟨some 19, none, false, .mv (.t 10)⟩,
  ⟨some 20, none, false, .bin .add (.t 18) (.t 19)⟩,
  ⟨some 21, none, false, .cvt .u64 (.t 20)⟩,
  ⟨some 22, none, false, .bin .shr (.t 21) (.c (.int .u64 1))⟩,
  ⟨some 23, none, false, .cvt .i64 (.t 22)⟩,
  ⟨some 11, none, false, .mv (.t 23)⟩]

def f_slices_BinarySearchFunc_lease_ladder_lease_Rung_int_r5 : List Abs.Op := [
  ⟨some 24, none, false, .mv (.t 2)⟩,
  ⟨some 25, none, false, .mv (.t 0)⟩,
  ⟨some 26, none, false, .mv (.t 11)⟩,
  ⟨some 27, none, false, .idxS 2 (.t 25) (.t 26)⟩,
  ⟨some 28, none, false, .ld true 2 (.t 27)⟩,
  ⟨some 29, none, false, .mv (.t 1)⟩,
  ⟨some 30, none, false, .call false (.t 24) [(.t 28), (.t 29)]⟩,
  ⟨some 31, none, false, .bin .lss (.t 30) (.c (.int .i64 0))⟩]

def f_slices_BinarySearchFunc_lease_ladder_lease_Rung_int_r6 : List Abs.Op := [
  ⟨some 32, none, false, .mv (.t 11)⟩,
  ⟨some 33, none, false, .bin .add (.t 32) (.c (.int .i64 1))⟩,
  ⟨some 9, none, false, .mv (.t 33)⟩]

def f_slices_BinarySearchFunc_lease_ladder_lease_Rung_int_r7 : List Abs.Op := [
  ⟨some 34, none, false, .mv (.t 11)⟩,
  ⟨some 10, none, false, .mv (.t 34)⟩]

def f_slices_BinarySearchFunc_lease_ladder_lease_Rung_int_l8 : Abs.Cmd :=
  (.seq (.seq (.reg [0, 1, 2, 8, 9, 10, 17] f_slices_BinarySearchFunc_lease_ladder_lease_Rung_int_r3) (.ite (.t 17) .nop (.exit 0))) (.blk 1 (.seq (.reg [0, 1, 2, 8, 9, 10, 11] f_slices_BinarySearchFunc_lease_ladder_lease_Rung_int_r4) (.seq (.reg [0, 1, 2, 8, 9, 10, 11, 31] f_slices_BinarySearchFunc_lease_ladder_lease_Rung_int_r5) (.ite (.t 31) (.reg [0, 1, 2, 8, 9, 10] f_slices_BinarySearchFunc_lease_ladder_lease_Rung_int_r6) (.reg [0, 1, 2, 8, 9, 10] f_slices_BinarySearchFunc_lease_ladder_lease_Rung_int_r7))))))

def f_slices_BinarySearchFunc_lease_ladder_lease_Rung_int_r9 : List Abs.Op := [
  ⟨some 35, none, false, .mv (.t 9)⟩,
  ⟨some 36, none, false, .mv (.t 9)⟩,
  ⟨some 37, none, false, .mv (.t 8)⟩,
  ⟨some 38, none, false, .bin .lss (.t 36) (.t 37)⟩,
  ⟨some 39, none, false, .mv (.t 38)⟩,
  ⟨some 40, some (39, true), false, .mv (.t 2)⟩,
  ⟨some 41, some (39, true), false, .mv (.t 0)⟩,
  ⟨some 42, some (39, true), false, .mv (.t 9)⟩,
  ⟨some 43, some (39, true), false, .idxS 2 (.t 41) (.t 42)⟩,
  ⟨some 44, some (39, true), false, .ld true 2 (.t 43)⟩,
  ⟨some 45, some (39, true), false, .mv (.t 1)⟩,
  ⟨some 46, some (39, true), false, .call false (.t 40) [(.t 44), (.t 45)]⟩,
  ⟨some 47, some (39, true), false, .bin .eql (.t 46) (.c (.int .i64 0))⟩,
  ⟨some 48, none, false, .pick (.t 39) (.t 47) (.c (.bool false))⟩,
  ⟨some 6, none, false, .mv (.t 35)⟩,
  ⟨some 7, none, false, .mv (.t 48)⟩]

def a_slices_BinarySearchFunc_lease_ladder_lease_Rung_int : Ann := ⟨[(8, [6, 7]), (6, [0, 1, 2, 8, 9, 10]), (7, [0, 1, 2, 8, 9, 10]), (5, [0, 1, 2, 8, 9, 10, 11, 31]), (4, [0, 1, 2, 8, 9, 10, 11]), (3, [0, 1, 2, 8, 9, 10, 17]), (2, [0, 1, 2, 8, 9, 10]), (1, [0, 1, 2, 8]), (0, [0, 1, 2])], [(0, [0, 1, 2, 8, 9, 10])], [], [], [], [], [], [], [], []⟩
def f_slices_BinarySearchFunc_lease_ladder_lease_Rung_int : Abs.Fn := ⟨3, [.t 6, .t 7],
  (.seq (.reg [0, 1, 2] f_slices_BinarySearchFunc_lease_ladder_lease_Rung_int_r0) (.seq (.reg [0, 1, 2, 8] f_slices_BinarySearchFunc_lease_ladder_lease_Rung_int_r1) (.seq (.reg [0, 1, 2, 8, 9, 10] f_slices_BinarySearchFunc_lease_ladder_lease_Rung_int_r2) (.seq (.blk 0 (.loop [0, 1, 2, 8, 9, 10] false f_slices_BinarySearchFunc_lease_ladder_lease_Rung_int_l8)) (.seq (.reg [6, 7] f_slices_BinarySearchFunc_lease_ladder_lease_Rung_int_r9) .ret)))))⟩

theorem e_slices_BinarySearchFunc_lease_ladder_lease_Rung_int_r0 : type_of% f_slices_BinarySearchFunc_lease_ladder_lease_Rung_int_r0.eq_1 := by_rfl f_slices_BinarySearchFunc_lease_ladder_lease_Rung_int_r0.eq_1
theorem e_slices_BinarySearchFunc_lease_ladder_lease_Rung_int_r1 : type_of% f_slices_BinarySearchFunc_lease_ladder_lease_Rung_int_r1.eq_1 := by_rfl f_slices_BinarySearchFunc_lease_ladder_lease_Rung_int_r1.eq_1
theorem e_slices_BinarySearchFunc_lease_ladder_lease_Rung_int_r2 : type_of% f_slices_BinarySearchFunc_lease_ladder_lease_Rung_int_r2.eq_1 := by_rfl f_slices_BinarySearchFunc_lease_ladder_lease_Rung_int_r2.eq_1
theorem e_slices_BinarySearchFunc_lease_ladder_lease_Rung_int_r3 : type_of% f_slices_BinarySearchFunc_lease_ladder_lease_Rung_int_r3.eq_1 := by_rfl f_slices_BinarySearchFunc_lease_ladder_lease_Rung_int_r3.eq_1
theorem e_slices_BinarySearchFunc_lease_ladder_lease_Rung_int_r4 : type_of% f_slices_BinarySearchFunc_lease_ladder_lease_Rung_int_r4.eq_1 := by_rfl f_slices_BinarySearchFunc_lease_ladder_lease_Rung_int_r4.eq_1
theorem e_slices_BinarySearchFunc_lease_ladder_lease_Rung_int_r5 : type_of% f_slices_BinarySearchFunc_lease_ladder_lease_Rung_int_r5.eq_1 := by_rfl f_slices_BinarySearchFunc_lease_ladder_lease_Rung_int_r5.eq_1
theorem e_slices_BinarySearchFunc_lease_ladder_lease_Rung_int_r6 : type_of% f_slices_BinarySearchFunc_lease_ladder_lease_Rung_int_r6.eq_1 := by_rfl f_slices_BinarySearchFunc_lease_ladder_lease_Rung_int_r6.eq_1
theorem e_slices_BinarySearchFunc_lease_ladder_lease_Rung_int_r7 : type_of% f_slices_BinarySearchFunc_lease_ladder_lease_Rung_int_r7.eq_1 := by_rfl f_slices_BinarySearchFunc_lease_ladder_lease_Rung_int_r7.eq_1
theorem e_slices_BinarySearchFunc_lease_ladder_lease_Rung_int_l8 : type_of% f_slices_BinarySearchFunc_lease_ladder_lease_Rung_int_l8.eq_1 := by_rfl f_slices_BinarySearchFunc_lease_ladder_lease_Rung_int_l8.eq_1
theorem e_slices_BinarySearchFunc_lease_ladder_lease_Rung_int_r9 : type_of% f_slices_BinarySearchFunc_lease_ladder_lease_Rung_int_r9.eq_1 := by_rfl f_slices_BinarySearchFunc_lease_ladder_lease_Rung_int_r9.eq_1
theorem e_slices_BinarySearchFunc_lease_ladder_lease_Rung_int : type_of% f_slices_BinarySearchFunc_lease_ladder_lease_Rung_int.eq_1 := by_rfl f_slices_BinarySearchFunc_lease_ladder_lease_Rung_int.eq_1
theorem ok_slices_BinarySearchFunc_lease_ladder_lease_Rung_int : fnC Tryz.prog a_slices_BinarySearchFunc_lease_ladder_lease_Rung_int Tryz.f87 = some f_slices_BinarySearchFunc_lease_ladder_lease_Rung_int := by kernel_rfl

/-! 88 (fumarole/lease.ladder).at$1 -/
def f_lease_ladder_at_1_r0 : List Abs.Op := [
  ⟨some 2, none, false, .boxi (.t 0)⟩,
  ⟨some 4, none, false, .mv (.c (.int .i64 0))⟩]

def f_lease_ladder_at_1_r1 : List Abs.Op := [
  ⟨some 5, none, false, .fadr 0 (.t 2)⟩,
  ⟨some 6, none, false, .ld false 1 (.t 5)⟩,
  ⟨some 7, none, false, .mv (.t 1)⟩,
  ⟨some 8, none, false, .bin .sub (.t 6) (.t 7)⟩,
  ⟨some 4, none, false, .mv (.t 8)⟩]

def a_lease_ladder_at_1 : Ann := ⟨[(1, [4]), (0, [1, 2])], [], [], [], [], [], [], [], [], []⟩
def f_lease_ladder_at_1 : Abs.Fn := ⟨2, [.t 4],
  (.seq (.reg [1, 2] f_lease_ladder_at_1_r0) (.seq (.reg [4] f_lease_ladder_at_1_r1) .ret))⟩

theorem e_lease_ladder_at_1_r0 : type_of% f_lease_ladder_at_1_r0.eq_1 := by_rfl f_lease_ladder_at_1_r0.eq_1
theorem e_lease_ladder_at_1_r1 : type_of% f_lease_ladder_at_1_r1.eq_1 := by_rfl f_lease_ladder_at_1_r1.eq_1
theorem e_lease_ladder_at_1 : type_of% f_lease_ladder_at_1.eq_1 := by_rfl f_lease_ladder_at_1.eq_1
theorem ok_lease_ladder_at_1 : fnC Tryz.prog a_lease_ladder_at_1 Tryz.f88 = some f_lease_ladder_at_1 := by kernel_rfl

/-! 89 fumarole/lease.taking$1 -/
def f_lease_taking_1_r0 : List Abs.Op := [
  ⟨some 2, none, false, .mv (.c (.bool false))⟩]

def f_lease_taking_1_r1 : List Abs.Op := [
  ⟨some 3, none, false, .mv (.t 0)⟩,
  ⟨some 4, none, false, .call false (.c (.fn i_lease_within [] [])) [(.t 3), (.c (.int .i64 0)), (.c (.int .i64 1000000))]⟩,
  ⟨some 2, none, false, .mv (.t 4)⟩]

def a_lease_taking_1 : Ann := ⟨[(1, [2]), (0, [0])], [], [], [], [], [], [], [], [], []⟩
def f_lease_taking_1 : Abs.Fn := ⟨1, [.t 2],
  (.seq (.reg [0] f_lease_taking_1_r0) (.seq (.reg [2] f_lease_taking_1_r1) .ret))⟩

theorem e_lease_taking_1_r0 : type_of% f_lease_taking_1_r0.eq_1 := by_rfl f_lease_taking_1_r0.eq_1
theorem e_lease_taking_1_r1 : type_of% f_lease_taking_1_r1.eq_1 := by_rfl f_lease_taking_1_r1.eq_1
theorem e_lease_taking_1 : type_of% f_lease_taking_1.eq_1 := by_rfl f_lease_taking_1.eq_1
theorem ok_lease_taking_1 : fnC Tryz.prog a_lease_taking_1 Tryz.f89 = some f_lease_taking_1 := by kernel_rfl

/-! 90 fumarole/lease.all[fumarole/lease.Spring] -/
def f_lease_all_lease_Spring_r0 : List Abs.Op := [
  ⟨some 3, none, false, .boxi (.t 1)⟩,
  ⟨some 4, none, false, .mv (.c (.bool false))⟩]

def f_lease_all_lease_Spring_r1 : List Abs.Op := [
  ⟨some 5, none, false, .mv (.t 0)⟩,
  ⟨some 6, none, false, .mkf i_lease_all_lease_Spring_1 [] [(.t 3)]⟩,
  ⟨some 7, none, false, .call false (.c (.fn i_slices_ContainsFunc_lease_Spring [] [])) [(.t 5), (.t 6)]⟩,
  ⟨some 8, none, false, .un .not (.t 7)⟩,
  ⟨some 4, none, false, .mv (.t 8)⟩]

def a_lease_all_lease_Spring : Ann := ⟨[(1, [4]), (0, [0, 3])], [], [], [], [], [], [], [], [], []⟩
def f_lease_all_lease_Spring : Abs.Fn := ⟨2, [.t 4],
  (.seq (.reg [0, 3] f_lease_all_lease_Spring_r0) (.seq (.reg [4] f_lease_all_lease_Spring_r1) .ret))⟩

theorem e_lease_all_lease_Spring_r0 : type_of% f_lease_all_lease_Spring_r0.eq_1 := by_rfl f_lease_all_lease_Spring_r0.eq_1
theorem e_lease_all_lease_Spring_r1 : type_of% f_lease_all_lease_Spring_r1.eq_1 := by_rfl f_lease_all_lease_Spring_r1.eq_1
theorem e_lease_all_lease_Spring : type_of% f_lease_all_lease_Spring.eq_1 := by_rfl f_lease_all_lease_Spring.eq_1
theorem ok_lease_all_lease_Spring : fnC Tryz.prog a_lease_all_lease_Spring Tryz.f90 = some f_lease_all_lease_Spring := by kernel_rfl

/-! 91 fumarole/lease.springs$1 -/
def f_lease_springs_1_r0 : List Abs.Op := [
  ⟨some 2, none, false, .boxi (.t 0)⟩,
  ⟨some 3, none, false, .mv (.c (.bool false))⟩]

def f_lease_springs_1_r1 : List Abs.Op := [
  ⟨some 4, none, true, .fadr 0 (.t 2)⟩,
  ⟨some 5, none, true, .ld false 1 (.t 4)⟩,
  ⟨some 6, none, true, .call false (.c (.fn i_lease_within [] [])) [(.t 5), (.c (.int .i64 0)), (.c (.int .i64 1000000000))]⟩,
  ⟨some 7, none, true, .mv (.t 6)⟩,
  ⟨some 8, some (7, true), true, .fadr 1 (.t 2)⟩,
  ⟨some 9, some (7, true), true, .ld false 1 (.t 8)⟩,
  ⟨some 10, some (7, true), true, .call false (.c (.fn i_lease_within [] [])) [(.t 9), (.c (.int .i64 0)), (.c (.int .i64 1000000000))]⟩,
  ⟨some 11, none, true, .pick (.t 7) (.t 10) (.c (.bool false))⟩,
  ⟨some 12, none, true, .mv (.t 11)⟩,
  ⟨some 13, some (12, true), true, .fadr 2 (.t 2)⟩,
  ⟨some 14, some (12, true), true, .ld false 1 (.t 13)⟩,
  ⟨some 15, some (12, true), true, .lenS (.t 14)⟩,
  ⟨some 16, some (12, true), true, .ld false 1 (.t 1)⟩,
  ⟨some 17, some (12, true), true, .idxS 3 (.t 16) (.c (.int .i64 0))⟩,
  ⟨some 18, some (12, true), true, .fadr 2 (.t 17)⟩,
  ⟨some 19, some (12, true), true, .ld false 1 (.t 18)⟩,
  ⟨some 20, some (12, true), true, .lenS (.t 19)⟩,
  ⟨some 21, some (12, true), false, .bin .eql (.t 15) (.t 20)⟩,
  ⟨some 22, none, false, .pick (.t 12) (.t 21) (.c (.bool false))⟩,
  ⟨some 23, none, false, .mv (.t 22)⟩,
  ⟨some 24, some (23, true), false, .fadr 2 (.t 2)⟩,
  ⟨some 25, some (23, true), false, .ld false 1 (.t 24)⟩,
  ⟨some 26, some (23, true), false, .call false (.c (.fn i_lease_all_lease_Range [] [])) [(.t 25), (.c (.fn i_lease_springs_1_1 [] []))]⟩,
  ⟨some 27, none, false, .pick (.t 23) (.t 26) (.c (.bool false))⟩,
  ⟨some 3, none, false, .mv (.t 27)⟩]

def a_lease_springs_1 : Ann := ⟨[(1, [3]), (0, [1, 2])], [], [], [], [], [], [], [], [], []⟩
def f_lease_springs_1 : Abs.Fn := ⟨2, [.t 3],
  (.seq (.reg [1, 2] f_lease_springs_1_r0) (.seq (.reg [3] f_lease_springs_1_r1) .ret))⟩

theorem e_lease_springs_1_r0 : type_of% f_lease_springs_1_r0.eq_1 := by_rfl f_lease_springs_1_r0.eq_1
theorem e_lease_springs_1_r1 : type_of% f_lease_springs_1_r1.eq_1 := by_rfl f_lease_springs_1_r1.eq_1
theorem e_lease_springs_1 : type_of% f_lease_springs_1.eq_1 := by_rfl f_lease_springs_1.eq_1
theorem ok_lease_springs_1 : fnC Tryz.prog a_lease_springs_1 Tryz.f91 = some f_lease_springs_1 := by kernel_rfl

/-! 92 fumarole/lease.all[fumarole/lease.Range] -/
def f_lease_all_lease_Range_r0 : List Abs.Op := [
  ⟨some 3, none, false, .boxi (.t 1)⟩,
  ⟨some 4, none, false, .mv (.c (.bool false))⟩]

def f_lease_all_lease_Range_r1 : List Abs.Op := [
  ⟨some 5, none, false, .mv (.t 0)⟩,
  ⟨some 6, none, false, .mkf i_lease_all_lease_Range_1 [] [(.t 3)]⟩,
  ⟨some 7, none, false, .call false (.c (.fn i_slices_ContainsFunc_lease_Range [] [])) [(.t 5), (.t 6)]⟩,
  ⟨some 8, none, false, .un .not (.t 7)⟩,
  ⟨some 4, none, false, .mv (.t 8)⟩]

def a_lease_all_lease_Range : Ann := ⟨[(1, [4]), (0, [0, 3])], [], [], [], [], [], [], [], [], []⟩
def f_lease_all_lease_Range : Abs.Fn := ⟨2, [.t 4],
  (.seq (.reg [0, 3] f_lease_all_lease_Range_r0) (.seq (.reg [4] f_lease_all_lease_Range_r1) .ret))⟩

theorem e_lease_all_lease_Range_r0 : type_of% f_lease_all_lease_Range_r0.eq_1 := by_rfl f_lease_all_lease_Range_r0.eq_1
theorem e_lease_all_lease_Range_r1 : type_of% f_lease_all_lease_Range_r1.eq_1 := by_rfl f_lease_all_lease_Range_r1.eq_1
theorem e_lease_all_lease_Range : type_of% f_lease_all_lease_Range.eq_1 := by_rfl f_lease_all_lease_Range.eq_1
theorem ok_lease_all_lease_Range : fnC Tryz.prog a_lease_all_lease_Range Tryz.f92 = some f_lease_all_lease_Range := by kernel_rfl

/-! 93 fumarole/lease.springs$1$1 -/
def f_lease_springs_1_1_r0 : List Abs.Op := [
  ⟨some 1, none, false, .boxi (.t 0)⟩,
  ⟨some 2, none, false, .mv (.c (.bool false))⟩]

def f_lease_springs_1_1_r1 : List Abs.Op := [
  ⟨some 3, none, false, .fadr 0 (.t 1)⟩,
  ⟨some 4, none, false, .ld false 1 (.t 3)⟩,
  ⟨some 5, none, false, .bin .leq (.c (.int .i64 0)) (.t 4)⟩,
  ⟨some 6, none, false, .mv (.t 5)⟩,
  ⟨some 7, some (6, true), false, .fadr 0 (.t 1)⟩,
  ⟨some 8, some (6, true), false, .ld false 1 (.t 7)⟩,
  ⟨some 9, some (6, true), false, .fadr 1 (.t 1)⟩,
  ⟨some 10, some (6, true), false, .ld false 1 (.t 9)⟩,
  ⟨some 11, some (6, true), false, .bin .leq (.t 8) (.t 10)⟩,
  ⟨some 12, none, false, .pick (.t 6) (.t 11) (.c (.bool false))⟩,
  ⟨some 13, none, false, .mv (.t 12)⟩,
  ⟨some 14, some (13, true), false, .fadr 1 (.t 1)⟩,
  ⟨some 15, some (13, true), false, .ld false 1 (.t 14)⟩,
  ⟨some 16, some (13, true), false, .bin .leq (.t 15) (.c (.int .i64 1000))⟩,
  ⟨some 17, none, false, .pick (.t 13) (.t 16) (.c (.bool false))⟩,
  ⟨some 2, none, false, .mv (.t 17)⟩]

def a_lease_springs_1_1 : Ann := ⟨[(1, [2]), (0, [1])], [], [], [], [], [], [], [], [], []⟩
def f_lease_springs_1_1 : Abs.Fn := ⟨1, [.t 2],
  (.seq (.reg [1] f_lease_springs_1_1_r0) (.seq (.reg [2] f_lease_springs_1_1_r1) .ret))⟩

theorem e_lease_springs_1_1_r0 : type_of% f_lease_springs_1_1_r0.eq_1 := by_rfl f_lease_springs_1_1_r0.eq_1
theorem e_lease_springs_1_1_r1 : type_of% f_lease_springs_1_1_r1.eq_1 := by_rfl f_lease_springs_1_1_r1.eq_1
theorem e_lease_springs_1_1 : type_of% f_lease_springs_1_1.eq_1 := by_rfl f_lease_springs_1_1.eq_1
theorem ok_lease_springs_1_1 : fnC Tryz.prog a_lease_springs_1_1 Tryz.f93 = some f_lease_springs_1_1 := by kernel_rfl

/-! 94 fumarole/lease.all[[]int] -/
def f_lease_all_L_int_r0 : List Abs.Op := [
  ⟨some 3, none, false, .boxi (.t 1)⟩,
  ⟨some 4, none, false, .mv (.c (.bool false))⟩]

def f_lease_all_L_int_r1 : List Abs.Op := [
  ⟨some 5, none, false, .mv (.t 0)⟩,
  ⟨some 6, none, false, .mkf i_lease_all_L_int_1 [] [(.t 3)]⟩,
  ⟨some 7, none, false, .call false (.c (.fn i_slices_ContainsFunc_L_int [] [])) [(.t 5), (.t 6)]⟩,
  ⟨some 8, none, false, .un .not (.t 7)⟩,
  ⟨some 4, none, false, .mv (.t 8)⟩]

def a_lease_all_L_int : Ann := ⟨[(1, [4]), (0, [0, 3])], [], [], [], [], [], [], [], [], []⟩
def f_lease_all_L_int : Abs.Fn := ⟨2, [.t 4],
  (.seq (.reg [0, 3] f_lease_all_L_int_r0) (.seq (.reg [4] f_lease_all_L_int_r1) .ret))⟩

theorem e_lease_all_L_int_r0 : type_of% f_lease_all_L_int_r0.eq_1 := by_rfl f_lease_all_L_int_r0.eq_1
theorem e_lease_all_L_int_r1 : type_of% f_lease_all_L_int_r1.eq_1 := by_rfl f_lease_all_L_int_r1.eq_1
theorem e_lease_all_L_int : type_of% f_lease_all_L_int.eq_1 := by_rfl f_lease_all_L_int.eq_1
theorem ok_lease_all_L_int : fnC Tryz.prog a_lease_all_L_int Tryz.f94 = some f_lease_all_L_int := by kernel_rfl

/-! 95 (fumarole/lease.Concession).valid$1 -/
def f_lease_Concession_valid_1_r0 : List Abs.Op := [
  ⟨some 3, none, false, .mv (.c (.bool false))⟩]

def f_lease_Concession_valid_1_r1 : List Abs.Op := [
  ⟨some 4, none, false, .mv (.t 0)⟩,
  ⟨some 5, none, false, .lenS (.t 4)⟩,
  ⟨some 6, none, false, .fadr 0 (.t 1)⟩,
  ⟨some 7, none, false, .ld false 1 (.t 6)⟩,
  ⟨some 8, none, false, .bin .eql (.t 5) (.t 7)⟩,
  ⟨some 9, none, false, .mv (.t 8)⟩,
  ⟨some 10, some (9, true), false, .mv (.t 0)⟩,
  ⟨some 11, some (9, true), false, .call false (.c (.fn i_lease_all_int [] [])) [(.t 10), (.c (.fn i_lease_Concession_valid_1_1 [] []))]⟩,
  ⟨some 12, none, false, .pick (.t 9) (.t 11) (.c (.bool false))⟩,
  ⟨some 13, none, false, .mv (.t 12)⟩,
  ⟨some 14, some (13, true), false, .mv (.t 0)⟩,
  ⟨some 15, some (13, true), false, .call false (.c (.fn i_lease_sum [] [])) [(.t 14)]⟩,
  ⟨some 16, some (13, true), false, .bin .leq (.t 15) (.c (.int .i64 1000))⟩,
  ⟨some 17, none, false, .pick (.t 13) (.t 16) (.c (.bool false))⟩,
  ⟨some 3, none, false, .mv (.t 17)⟩]

def a_lease_Concession_valid_1 : Ann := ⟨[(1, [3]), (0, [0, 1])], [], [], [], [], [], [], [], [], []⟩
def f_lease_Concession_valid_1 : Abs.Fn := ⟨2, [.t 3],
  (.seq (.reg [0, 1] f_lease_Concession_valid_1_r0) (.seq (.reg [3] f_lease_Concession_valid_1_r1) .ret))⟩

theorem e_lease_Concession_valid_1_r0 : type_of% f_lease_Concession_valid_1_r0.eq_1 := by_rfl f_lease_Concession_valid_1_r0.eq_1
theorem e_lease_Concession_valid_1_r1 : type_of% f_lease_Concession_valid_1_r1.eq_1 := by_rfl f_lease_Concession_valid_1_r1.eq_1
theorem e_lease_Concession_valid_1 : type_of% f_lease_Concession_valid_1.eq_1 := by_rfl f_lease_Concession_valid_1.eq_1
theorem ok_lease_Concession_valid_1 : fnC Tryz.prog a_lease_Concession_valid_1 Tryz.f95 = some f_lease_Concession_valid_1 := by kernel_rfl

/-! 96 (fumarole/lease.Concession).valid$1$1 -/
def f_lease_Concession_valid_1_1_r0 : List Abs.Op := [
  ⟨some 2, none, false, .mv (.c (.bool false))⟩]

def f_lease_Concession_valid_1_1_r1 : List Abs.Op := [
  ⟨some 3, none, false, .mv (.t 0)⟩,
  ⟨some 4, none, false, .call false (.c (.fn i_lease_within [] [])) [(.t 3), (.c (.int .i64 0)), (.c (.int .i64 1000))]⟩,
  ⟨some 2, none, false, .mv (.t 4)⟩]

def a_lease_Concession_valid_1_1 : Ann := ⟨[(1, [2]), (0, [0])], [], [], [], [], [], [], [], [], []⟩
def f_lease_Concession_valid_1_1 : Abs.Fn := ⟨1, [.t 2],
  (.seq (.reg [0] f_lease_Concession_valid_1_1_r0) (.seq (.reg [2] f_lease_Concession_valid_1_1_r1) .ret))⟩

theorem e_lease_Concession_valid_1_1_r0 : type_of% f_lease_Concession_valid_1_1_r0.eq_1 := by_rfl f_lease_Concession_valid_1_1_r0.eq_1
theorem e_lease_Concession_valid_1_1_r1 : type_of% f_lease_Concession_valid_1_1_r1.eq_1 := by_rfl f_lease_Concession_valid_1_1_r1.eq_1
theorem e_lease_Concession_valid_1_1 : type_of% f_lease_Concession_valid_1_1.eq_1 := by_rfl f_lease_Concession_valid_1_1.eq_1
theorem ok_lease_Concession_valid_1_1 : fnC Tryz.prog a_lease_Concession_valid_1_1 Tryz.f96 = some f_lease_Concession_valid_1_1 := by kernel_rfl

/-! 97 (fumarole/lease.Programme).planned$1 -/
def f_lease_Programme_planned_1_r0 : List Abs.Op := [
  ⟨some 3, none, false, .mv (.c (.bool false))⟩]

def f_lease_Programme_planned_1_r1 : List Abs.Op := [
  ⟨some 4, none, false, .mv (.t 0)⟩,
  ⟨some 5, none, false, .fadr 3 (.t 1)⟩,
  ⟨some 6, none, false, .ld false 1 (.t 5)⟩,
  ⟨some 7, none, false, .call false (.c (.fn i_lease_within [] [])) [(.t 4), (.c (.int .i64 0)), (.t 6)]⟩,
  ⟨some 3, none, false, .mv (.t 7)⟩]

def a_lease_Programme_planned_1 : Ann := ⟨[(1, [3]), (0, [0, 1])], [], [], [], [], [], [], [], [], []⟩
def f_lease_Programme_planned_1 : Abs.Fn := ⟨2, [.t 3],
  (.seq (.reg [0, 1] f_lease_Programme_planned_1_r0) (.seq (.reg [3] f_lease_Programme_planned_1_r1) .ret))⟩

theorem e_lease_Programme_planned_1_r0 : type_of% f_lease_Programme_planned_1_r0.eq_1 := by_rfl f_lease_Programme_planned_1_r0.eq_1
theorem e_lease_Programme_planned_1_r1 : type_of% f_lease_Programme_planned_1_r1.eq_1 := by_rfl f_lease_Programme_planned_1_r1.eq_1
theorem e_lease_Programme_planned_1 : type_of% f_lease_Programme_planned_1.eq_1 := by_rfl f_lease_Programme_planned_1.eq_1
theorem ok_lease_Programme_planned_1 : fnC Tryz.prog a_lease_Programme_planned_1 Tryz.f97 = some f_lease_Programme_planned_1 := by kernel_rfl

/-! 98 slices.ContainsFunc[[][]fumarole/lease.Rung,[]fumarole/lease.Rung] -/
def f_slices_ContainsFunc_L_lease_Rung_r0 : List Abs.Op := [
  ⟨some 4, none, false, .mv (.c (.bool false))⟩]

def f_slices_ContainsFunc_L_lease_Rung_r1 : List Abs.Op := [
  ⟨some 5, none, false, .mv (.t 0)⟩,
  ⟨some 6, none, false, .mv (.t 1)⟩,
  ⟨some 7, none, false, .call false (.c (.fn i_slices_IndexFunc_L_lease_Rung [] [])) [(.t 5), (.t 6)]⟩,
  ⟨some 8, none, false, .bin .geq (.t 7) (.c (.int .i64 0))⟩,
  ⟨some 4, none, false, .mv (.t 8)⟩]

def a_slices_ContainsFunc_L_lease_Rung : Ann := ⟨[(1, [4]), (0, [0, 1])], [], [], [], [], [], [], [], [], []⟩
def f_slices_ContainsFunc_L_lease_Rung : Abs.Fn := ⟨2, [.t 4],
  (.seq (.reg [0, 1] f_slices_ContainsFunc_L_lease_Rung_r0) (.seq (.reg [4] f_slices_ContainsFunc_L_lease_Rung_r1) .ret))⟩

theorem e_slices_ContainsFunc_L_lease_Rung_r0 : type_of% f_slices_ContainsFunc_L_lease_Rung_r0.eq_1 := by_rfl f_slices_ContainsFunc_L_lease_Rung_r0.eq_1
theorem e_slices_ContainsFunc_L_lease_Rung_r1 : type_of% f_slices_ContainsFunc_L_lease_Rung_r1.eq_1 := by_rfl f_slices_ContainsFunc_L_lease_Rung_r1.eq_1
theorem e_slices_ContainsFunc_L_lease_Rung : type_of% f_slices_ContainsFunc_L_lease_Rung.eq_1 := by_rfl f_slices_ContainsFunc_L_lease_Rung.eq_1
theorem ok_slices_ContainsFunc_L_lease_Rung : fnC Tryz.prog a_slices_ContainsFunc_L_lease_Rung Tryz.f98 = some f_slices_ContainsFunc_L_lease_Rung := by kernel_rfl

/-! 99 fumarole/lease.all[[]fumarole/lease.Rung]$1 -/
def f_lease_all_L_lease_Rung_1_r0 : List Abs.Op := [
  ⟨some 3, none, false, .mv (.c (.bool false))⟩]

def f_lease_all_L_lease_Rung_1_r1 : List Abs.Op := [
  ⟨some 4, none, false, .ld false 1 (.t 1)⟩,
  ⟨some 5, none, false, .mv (.t 0)⟩,
  ⟨some 6, none, false, .call false (.t 4) [(.t 5)]⟩,
  ⟨some 7, none, false, .un .not (.t 6)⟩,
  ⟨some 3, none, false, .mv (.t 7)⟩]

def a_lease_all_L_lease_Rung_1 : Ann := ⟨[(1, [3]), (0, [0, 1])], [], [], [], [], [], [], [], [], []⟩
def f_lease_all_L_lease_Rung_1 : Abs.Fn := ⟨2, [.t 3],
  (.seq (.reg [0, 1] f_lease_all_L_lease_Rung_1_r0) (.seq (.reg [3] f_lease_all_L_lease_Rung_1_r1) .ret))⟩

theorem e_lease_all_L_lease_Rung_1_r0 : type_of% f_lease_all_L_lease_Rung_1_r0.eq_1 := by_rfl f_lease_all_L_lease_Rung_1_r0.eq_1
theorem e_lease_all_L_lease_Rung_1_r1 : type_of% f_lease_all_L_lease_Rung_1_r1.eq_1 := by_rfl f_lease_all_L_lease_Rung_1_r1.eq_1
theorem e_lease_all_L_lease_Rung_1 : type_of% f_lease_all_L_lease_Rung_1.eq_1 := by_rfl f_lease_all_L_lease_Rung_1.eq_1
theorem ok_lease_all_L_lease_Rung_1 : fnC Tryz.prog a_lease_all_L_lease_Rung_1 Tryz.f99 = some f_lease_all_L_lease_Rung_1 := by kernel_rfl

/-! 100 slices.ContainsFunc[[]int,int] -/
def f_slices_ContainsFunc_int_r0 : List Abs.Op := [
  ⟨some 4, none, false, .mv (.c (.bool false))⟩]

def f_slices_ContainsFunc_int_r1 : List Abs.Op := [
  ⟨some 5, none, false, .mv (.t 0)⟩,
  ⟨some 6, none, false, .mv (.t 1)⟩,
  ⟨some 7, none, false, .call false (.c (.fn i_slices_IndexFunc_int [] [])) [(.t 5), (.t 6)]⟩,
  ⟨some 8, none, false, .bin .geq (.t 7) (.c (.int .i64 0))⟩,
  ⟨some 4, none, false, .mv (.t 8)⟩]

def a_slices_ContainsFunc_int : Ann := ⟨[(1, [4]), (0, [0, 1])], [], [], [], [], [], [], [], [], []⟩
def f_slices_ContainsFunc_int : Abs.Fn := ⟨2, [.t 4],
  (.seq (.reg [0, 1] f_slices_ContainsFunc_int_r0) (.seq (.reg [4] f_slices_ContainsFunc_int_r1) .ret))⟩

theorem e_slices_ContainsFunc_int_r0 : type_of% f_slices_ContainsFunc_int_r0.eq_1 := by_rfl f_slices_ContainsFunc_int_r0.eq_1
theorem e_slices_ContainsFunc_int_r1 : type_of% f_slices_ContainsFunc_int_r1.eq_1 := by_rfl f_slices_ContainsFunc_int_r1.eq_1
theorem e_slices_ContainsFunc_int : type_of% f_slices_ContainsFunc_int.eq_1 := by_rfl f_slices_ContainsFunc_int.eq_1
theorem ok_slices_ContainsFunc_int : fnC Tryz.prog a_slices_ContainsFunc_int Tryz.f100 = some f_slices_ContainsFunc_int := by kernel_rfl

/-! 101 fumarole/lease.all[int]$1 -/
def f_lease_all_int_1_r0 : List Abs.Op := [
  ⟨some 3, none, false, .mv (.c (.bool false))⟩]

def f_lease_all_int_1_r1 : List Abs.Op := [
  ⟨some 4, none, false, .ld false 1 (.t 1)⟩,
  ⟨some 5, none, false, .mv (.t 0)⟩,
  ⟨some 6, none, false, .call false (.t 4) [(.t 5)]⟩,
  ⟨some 7, none, false, .un .not (.t 6)⟩,
  ⟨some 3, none, false, .mv (.t 7)⟩]

def a_lease_all_int_1 : Ann := ⟨[(1, [3]), (0, [0, 1])], [], [], [], [], [], [], [], [], []⟩
def f_lease_all_int_1 : Abs.Fn := ⟨2, [.t 3],
  (.seq (.reg [0, 1] f_lease_all_int_1_r0) (.seq (.reg [3] f_lease_all_int_1_r1) .ret))⟩

theorem e_lease_all_int_1_r0 : type_of% f_lease_all_int_1_r0.eq_1 := by_rfl f_lease_all_int_1_r0.eq_1
theorem e_lease_all_int_1_r1 : type_of% f_lease_all_int_1_r1.eq_1 := by_rfl f_lease_all_int_1_r1.eq_1
theorem e_lease_all_int_1 : type_of% f_lease_all_int_1.eq_1 := by_rfl f_lease_all_int_1.eq_1
theorem ok_lease_all_int_1 : fnC Tryz.prog a_lease_all_int_1 Tryz.f101 = some f_lease_all_int_1 := by kernel_rfl

/-! 102 slices.SortStableFunc[[]int,int] -/
def f_slices_SortStableFunc_int_r0 : List Abs.Op := [
  ⟨some 4, none, false, .mv (.t 0)⟩,
  ⟨some 5, none, false, .mv (.t 0)⟩,
  ⟨some 6, none, false, .lenS (.t 5)⟩,
  ⟨some 7, none, false, .mv (.t 1)⟩,
  ⟨some 8, none, false, .call false (.c (.fn i_slices_stableCmpFunc_int [] [])) [(.t 4), (.t 6), (.t 7)]⟩]

def a_slices_SortStableFunc_int : Ann := ⟨[(0, [])], [], [], [], [], [], [], [], [], []⟩
def f_slices_SortStableFunc_int : Abs.Fn := ⟨2, [],
  (.reg [] f_slices_SortStableFunc_int_r0)⟩

theorem e_slices_SortStableFunc_int_r0 : type_of% f_slices_SortStableFunc_int_r0.eq_1 := by_rfl f_slices_SortStableFunc_int_r0.eq_1
theorem e_slices_SortStableFunc_int : type_of% f_slices_SortStableFunc_int.eq_1 := by_rfl f_slices_SortStableFunc_int.eq_1
theorem ok_slices_SortStableFunc_int : fnC Tryz.prog a_slices_SortStableFunc_int Tryz.f102 = some f_slices_SortStableFunc_int := by kernel_rfl

/-! 103 fumarole/lease.ranked[fumarole/lease.portion]$1 -/
def f_lease_ranked_lease_portion_1_r0 : List Abs.Op := [
  ⟨some 6, none, false, .mv (.c (.int .i64 0))⟩]

def f_lease_ranked_lease_portion_1_r1 : List Abs.Op := [
  ⟨some 9, none, true, .ld false 1 (.t 2)⟩,
  ⟨some 10, none, true, .ld false 1 (.t 3)⟩,
  ⟨some 11, none, true, .mv (.t 0)⟩,
  ⟨some 12, none, true, .idxS 2 (.t 10) (.t 11)⟩,
  ⟨some 13, none, true, .ld true 2 (.t 12)⟩,
  ⟨some 14, none, true, .call false (.t 9) [(.t 13)]⟩,
  ⟨some 15, none, true, .ld false 1 (.t 2)⟩,
  ⟨some 16, none, true, .ld false 1 (.t 3)⟩,
  ⟨some 17, none, true, .mv (.t 1)⟩,
  ⟨some 18, none, true, .idxS 2 (.t 16) (.t 17)⟩,
  ⟨some 19, none, true, .ld true 2 (.t 18)⟩,
  ⟨some 20, none, false, .call false (.t 15) [(.t 19)]⟩,
  ⟨some 7, none, false, .mv (.t 14)⟩,
  ⟨some 8, none, false, .mv (.t 20)⟩]

def f_lease_ranked_lease_portion_1_r2 : List Abs.Op := [
  ⟨some 22, none, false, .mv (.t 7)⟩,
  ⟨some 23, none, false, .mv (.t 8)⟩,
  ⟨some 24, none, false, .bin .gtr (.t 22) (.t 23)⟩,
  ⟨some 21, none, false, .mv (.t 24)⟩]

def f_lease_ranked_lease_portion_1_r3 : List Abs.Op := [
  ⟨some 6, none, false, .mv (.c (.int .i64 (-1)))⟩]

def f_lease_ranked_lease_portion_1_r4 : List Abs.Op := [
  ⟨some 26, none, false, .mv (.t 7)⟩,
  ⟨some 27, none, false, .mv (.t 8)⟩,
  ⟨some 28, none, false, .bin .lss (.t 26) (.t 27)⟩,
  ⟨some 25, none, false, .mv (.t 28)⟩]

def f_lease_ranked_lease_portion_1_r5 : List Abs.Op := [
  ⟨some 6, none, false, .mv (.c (.int .i64 1))⟩]

def f_lease_ranked_lease_portion_1_r6 : List Abs.Op := [
  ⟨some 6, none, false, .mv (.c (.int .i64 0))⟩]

def a_lease_ranked_lease_portion_1 : Ann := ⟨[(6, [6]), (3, [6]), (5, [6]), (4, [25]), (2, [7, 8, 21]), (1, [7, 8]), (0, [0, 1, 2, 3])], [], [], [], [], [], [], [], [], []⟩
def f_lease_ranked_lease_portion_1 : Abs.Fn := ⟨4, [.t 6],
  (.seq (.reg [0, 1, 2, 3] f_lease_ranked_lease_portion_1_r0) (.seq (.seq (.reg [7, 8] f_lease_ranked_lease_portion_1_r1) (.blk 0 (.seq (.reg [7, 8, 21] f_lease_ranked_lease_portion_1_r2) (.ite (.t 21) (.seq (.reg [6] f_lease_ranked_lease_portion_1_r3) .ret) (.seq (.reg [25] f_lease_ranked_lease_portion_1_r4) (.ite (.t 25) (.seq (.reg [6] f_lease_ranked_lease_portion_1_r5) .ret) .nop)))))) (.seq (.reg [6] f_lease_ranked_lease_portion_1_r6) .ret)))⟩

theorem e_lease_ranked_lease_portion_1_r0 : type_of% f_lease_ranked_lease_portion_1_r0.eq_1 := by_rfl f_lease_ranked_lease_portion_1_r0.eq_1
theorem e_lease_ranked_lease_portion_1_r1 : type_of% f_lease_ranked_lease_portion_1_r1.eq_1 := by_rfl f_lease_ranked_lease_portion_1_r1.eq_1
theorem e_lease_ranked_lease_portion_1_r2 : type_of% f_lease_ranked_lease_portion_1_r2.eq_1 := by_rfl f_lease_ranked_lease_portion_1_r2.eq_1
theorem e_lease_ranked_lease_portion_1_r3 : type_of% f_lease_ranked_lease_portion_1_r3.eq_1 := by_rfl f_lease_ranked_lease_portion_1_r3.eq_1
theorem e_lease_ranked_lease_portion_1_r4 : type_of% f_lease_ranked_lease_portion_1_r4.eq_1 := by_rfl f_lease_ranked_lease_portion_1_r4.eq_1
theorem e_lease_ranked_lease_portion_1_r5 : type_of% f_lease_ranked_lease_portion_1_r5.eq_1 := by_rfl f_lease_ranked_lease_portion_1_r5.eq_1
theorem e_lease_ranked_lease_portion_1_r6 : type_of% f_lease_ranked_lease_portion_1_r6.eq_1 := by_rfl f_lease_ranked_lease_portion_1_r6.eq_1
theorem e_lease_ranked_lease_portion_1 : type_of% f_lease_ranked_lease_portion_1.eq_1 := by_rfl f_lease_ranked_lease_portion_1.eq_1
theorem ok_lease_ranked_lease_portion_1 : fnC Tryz.prog a_lease_ranked_lease_portion_1 Tryz.f103 = some f_lease_ranked_lease_portion_1 := by kernel_rfl

/-! 104 slices.ContainsFunc[[]fumarole/lease.Year,fumarole/lease.Year] -/
def f_slices_ContainsFunc_lease_Year_r0 : List Abs.Op := [
  ⟨some 4, none, false, .mv (.c (.bool false))⟩]

def f_slices_ContainsFunc_lease_Year_r1 : List Abs.Op := [
  ⟨some 5, none, false, .mv (.t 0)⟩,
  ⟨some 6, none, false, .mv (.t 1)⟩,
  ⟨some 7, none, false, .call false (.c (.fn i_slices_IndexFunc_lease_Year [] [])) [(.t 5), (.t 6)]⟩,
  ⟨some 8, none, false, .bin .geq (.t 7) (.c (.int .i64 0))⟩,
  ⟨some 4, none, false, .mv (.t 8)⟩]

def a_slices_ContainsFunc_lease_Year : Ann := ⟨[(1, [4]), (0, [0, 1])], [], [], [], [], [], [], [], [], []⟩
def f_slices_ContainsFunc_lease_Year : Abs.Fn := ⟨2, [.t 4],
  (.seq (.reg [0, 1] f_slices_ContainsFunc_lease_Year_r0) (.seq (.reg [4] f_slices_ContainsFunc_lease_Year_r1) .ret))⟩

theorem e_slices_ContainsFunc_lease_Year_r0 : type_of% f_slices_ContainsFunc_lease_Year_r0.eq_1 := by_rfl f_slices_ContainsFunc_lease_Year_r0.eq_1
theorem e_slices_ContainsFunc_lease_Year_r1 : type_of% f_slices_ContainsFunc_lease_Year_r1.eq_1 := by_rfl f_slices_ContainsFunc_lease_Year_r1.eq_1
theorem e_slices_ContainsFunc_lease_Year : type_of% f_slices_ContainsFunc_lease_Year.eq_1 := by_rfl f_slices_ContainsFunc_lease_Year.eq_1
theorem ok_slices_ContainsFunc_lease_Year : fnC Tryz.prog a_slices_ContainsFunc_lease_Year Tryz.f104 = some f_slices_ContainsFunc_lease_Year := by kernel_rfl

/-! 105 fumarole/lease.all[fumarole/lease.Year]$1 -/
def f_lease_all_lease_Year_1_r0 : List Abs.Op := [
  ⟨some 2, none, false, .boxi (.t 0)⟩,
  ⟨some 3, none, false, .mv (.c (.bool false))⟩]

def f_lease_all_lease_Year_1_r1 : List Abs.Op := [
  ⟨some 4, none, false, .ld false 1 (.t 1)⟩,
  ⟨some 5, none, false, .ld true 2 (.t 2)⟩,
  ⟨some 6, none, false, .call false (.t 4) [(.t 5)]⟩,
  ⟨some 7, none, false, .un .not (.t 6)⟩,
  ⟨some 3, none, false, .mv (.t 7)⟩]

def a_lease_all_lease_Year_1 : Ann := ⟨[(1, [3]), (0, [1, 2])], [], [], [], [], [], [], [], [], []⟩
def f_lease_all_lease_Year_1 : Abs.Fn := ⟨2, [.t 3],
  (.seq (.reg [1, 2] f_lease_all_lease_Year_1_r0) (.seq (.reg [3] f_lease_all_lease_Year_1_r1) .ret))⟩

theorem e_lease_all_lease_Year_1_r0 : type_of% f_lease_all_lease_Year_1_r0.eq_1 := by_rfl f_lease_all_lease_Year_1_r0.eq_1
theorem e_lease_all_lease_Year_1_r1 : type_of% f_lease_all_lease_Year_1_r1.eq_1 := by_rfl f_lease_all_lease_Year_1_r1.eq_1
theorem e_lease_all_lease_Year_1 : type_of% f_lease_all_lease_Year_1.eq_1 := by_rfl f_lease_all_lease_Year_1.eq_1
theorem ok_lease_all_lease_Year_1 : fnC Tryz.prog a_lease_all_lease_Year_1 Tryz.f105 = some f_lease_all_lease_Year_1 := by kernel_rfl

/-! 106 (fumarole/lease.work).ladders$1 -/
def f_lease_work_ladders_1_r0 : List Abs.Op := [
  ⟨some 10, none, false, .bld [(.int .i64 0), (.int .i64 0)] [(0, 1, (.c (.int .i64 100000000))), (1, 1, (.c (.int .i64 0)))]⟩,
  ⟨some 11, none, false, .bsi 1 2 [(.int .i64 0), (.int .i64 0)] [(0, 2, (.t 10))]⟩,
  ⟨some 3, none, false, .mv (.t 11)⟩]

def f_lease_work_ladders_1_r1 : List Abs.Op := [
  ⟨some 12, none, false, .fadr 0 (.t 1)⟩,
  ⟨some 13, none, false, .fadr 4 (.t 12)⟩,
  ⟨some 14, none, false, .ld false 1 (.t 13)⟩,
  ⟨some 15, none, false, .lenS (.t 14)⟩,
  ⟨some 16, none, false, .bin .sub (.t 15) (.c (.int .i64 1))⟩,
  ⟨some 4, none, false, .mv (.t 16)⟩]

def f_lease_work_ladders_1_r2 : List Abs.Op := [
  ⟨some 17, none, false, .mv (.t 4)⟩,
  ⟨some 18, none, false, .bin .geq (.t 17) (.c (.int .i64 0))⟩]

def f_lease_work_ladders_1_r3 : List Abs.Op := [
  ⟨some 5, none, false, .nilb 2⟩]

def f_lease_work_ladders_1_r4 : List Abs.Op := [
  ⟨some 21, none, false, .ld true 5 (.t 1)⟩,
  ⟨some 22, none, false, .mv (.t 4)⟩,
  ⟨some 23, none, false, .mv (.t 3)⟩,
  ⟨some 24, none, false, .call false (.c (.fn i_lease_work_breaks [] [])) [(.t 21), (.t 22), (.t 23)]⟩,
  ⟨some 25, none, false, .lenS (.t 24)⟩,
  ⟨some 26, none, false, .mv (.c (.int .i64 0))⟩]

def f_lease_work_ladders_1_r5 : List Abs.Op := [
  ⟨some 27, none, false, .bin .lss (.t 26) (.t 25)⟩]

def f_lease_work_ladders_1_r6 : List Abs.Op := [
  ⟨some 28, none, false, .idxS 1 (.t 24) (.t 26)⟩,
  ⟨some 29, none, false, .ld false 1 (.t 28)⟩,
  ⟨some 7, none, false, .mv (.t 29)⟩]

def f_lease_work_ladders_1_r7 : List Abs.Op := [
  ⟨some 30, none, false, .ld true 5 (.t 1)⟩,
  ⟨some 31, none, false, .mv (.t 4)⟩,
  ⟨some 32, none, false, .mv (.t 7)⟩,
  ⟨some 33, none, false, .mv (.t 3)⟩,
  ⟨some 34, none, false, .call false (.c (.fn i_lease_work_least [] [])) [(.t 30), (.t 31), (.t 32), (.t 33)]⟩,
  ⟨some 8, none, false, .mv (.t 34)⟩]

def f_lease_work_ladders_1_r8 : List Abs.Op := [
  ⟨some 35, none, false, .mv (.t 5)⟩,
  ⟨some 36, none, false, .lenS (.t 35)⟩,
  ⟨some 9, none, false, .mv (.t 36)⟩]

def f_lease_work_ladders_1_r9 : List Abs.Op := [
  ⟨some 37, none, false, .mv (.t 9)⟩,
  ⟨some 38, none, false, .bin .gtr (.t 37) (.c (.int .i64 0))⟩,
  ⟨some 39, none, false, .mv (.t 38)⟩,
  ⟨some 40, some (39, true), false, .mv (.t 5)⟩,
  ⟨some 41, some (39, true), false, .mv (.t 9)⟩,
  ⟨some 42, some (39, true), false, .bin .sub (.t 41) (.c (.int .i64 1))⟩,
  ⟨some 43, some (39, true), false, .idxS 2 (.t 40) (.t 42)⟩,
  ⟨some 44, some (39, true), false, .fadr 1 (.t 43)⟩,
  ⟨some 45, some (39, true), false, .ld false 1 (.t 44)⟩,
  ⟨some 46, some (39, true), false, .mv (.t 8)⟩,
  ⟨some 47, some (39, true), false, .bin .eql (.t 45) (.t 46)⟩,
  ⟨some 48, none, false, .pick (.t 39) (.t 47) (.c (.bool false))⟩]

def f_lease_work_ladders_1_r10 : List Abs.Op := [
  ⟨some 49, none, false, .mv (.t 5)⟩,
  ⟨some 50, none, false, .mv (.t 9)⟩,
  ⟨some 51, none, false, .bin .sub (.t 50) (.c (.int .i64 1))⟩,
  ⟨some 52, none, false, .mv (.t 7)⟩,
  ⟨some 53, none, false, .idxS 2 (.t 49) (.t 51)⟩,
  ⟨some 54, none, false, .fadr 0 (.t 53)⟩,
  ⟨none, none, false, .st [] 1 (.t 54) (.t 52)⟩]

def f_lease_work_ladders_1_r11 : List Abs.Op := [
  ⟨some 55, none, false, .mv (.t 5)⟩,
  ⟨some 56, none, false, .mv (.t 7)⟩,
  ⟨some 57, none, false, .mv (.t 8)⟩,
  ⟨some 58, none, false, .bld [(.int .i64 0), (.int .i64 0)] [(0, 1, (.t 56)), (1, 1, (.t 57))]⟩,
  ⟨some 59, none, false, .bsi 1 2 [(.int .i64 0), (.int .i64 0)] [(0, 2, (.t 58))]⟩,
  ⟨some 60, none, false, .app 2 16 (.t 55) (.t 59)⟩,
  ⟨some 5, none, false, .mv (.t 60)⟩]

def f_lease_work_ladders_1_r12 : List Abs.Op := [
  ⟨some 61, none, false, .bin .add (.t 26) (.c (.int .i64 1))⟩,
  ⟨some 26, none, false, .mv (.t 61)⟩]

def f_lease_work_ladders_1_l13 : Abs.Cmd :=
  (.seq (.reg [0, 1, 3, 4, 5, 24, 25, 26, 27] f_lease_work_ladders_1_r5) (.seq (.ite (.t 27) .nop (.exit 2)) (.seq (.blk 3 (.seq (.reg [0, 1, 3, 4, 5, 7, 24, 25, 26] f_lease_work_ladders_1_r6) (.seq (.reg [0, 1, 3, 4, 5, 7, 8, 24, 25, 26] f_lease_work_ladders_1_r7) (.seq (.reg [0, 1, 3, 4, 5, 7, 8, 9, 24, 25, 26] f_lease_work_ladders_1_r8) (.seq (.reg [0, 1, 3, 4, 5, 7, 8, 9, 24, 25, 26, 48] f_lease_work_ladders_1_r9) (.ite (.t 48) (.reg [0, 1, 3, 4, 5, 24, 25, 26] f_lease_work_ladders_1_r10) (.reg [0, 1, 3, 4, 5, 24, 25, 26] f_lease_work_ladders_1_r11))))))) (.reg [0, 1, 3, 4, 5, 24, 25, 26] f_lease_work_ladders_1_r12))))

def f_lease_work_ladders_1_r14 : List Abs.Op := [
  ⟨some 62, none, false, .mv (.t 0)⟩,
  ⟨some 63, none, false, .mv (.t 4)⟩,
  ⟨some 64, none, false, .mv (.t 5)⟩,
  ⟨some 65, none, false, .call false (.t 62) [(.t 63), (.t 64)]⟩,
  ⟨some 66, none, false, .un .not (.t 65)⟩]

def f_lease_work_ladders_1_r15 : List Abs.Op := [
  ⟨some 67, none, false, .mv (.t 5)⟩,
  ⟨some 3, none, false, .mv (.t 67)⟩]

def f_lease_work_ladders_1_r16 : List Abs.Op := [
  ⟨some 19, none, false, .mv (.t 4)⟩,
  ⟨some 20, none, false, .bin .sub (.t 19) (.c (.int .i64 1))⟩,
  ⟨some 4, none, false, .mv (.t 20)⟩]

def f_lease_work_ladders_1_l17 : Abs.Cmd :=
  (.seq (.seq (.reg [0, 1, 3, 4, 18] f_lease_work_ladders_1_r2) (.ite (.t 18) .nop (.exit 0))) (.seq (.blk 1 (.seq (.reg [0, 1, 3, 4, 5] f_lease_work_ladders_1_r3) (.seq (.seq (.reg [0, 1, 3, 4, 5, 24, 25, 26] f_lease_work_ladders_1_r4) (.blk 2 (.loop [0, 1, 3, 4, 5, 24, 25, 26] false f_lease_work_ladders_1_l13))) (.seq (.seq (.seq (.frz [5]) (.reg [0, 1, 4, 5, 66] f_lease_work_ladders_1_r14)) (.ite (.t 66) .ret .nop)) (.reg [0, 1, 3, 4] f_lease_work_ladders_1_r15))))) (.reg [0, 1, 3, 4] f_lease_work_ladders_1_r16)))

def a_lease_work_ladders_1 : Ann := ⟨[(3, [0, 1, 3, 4]), (15, [0, 1, 3, 4]), (14, [0, 1, 4, 5, 66]), (13, [0, 1, 3, 4, 5, 24, 25, 26]), (11, [0, 1, 3, 4, 5, 24, 25, 26]), (12, [0, 1, 3, 4, 5, 24, 25, 26]), (10, [0, 1, 3, 4, 5, 7, 8, 9, 24, 25, 26, 48]), (9, [0, 1, 3, 4, 5, 7, 8, 9, 24, 25, 26]), (8, [0, 1, 3, 4, 5, 7, 8, 24, 25, 26]), (7, [0, 1, 3, 4, 5, 7, 24, 25, 26]), (6, [0, 1, 3, 4, 5, 24, 25, 26, 27]), (5, [0, 1, 3, 4, 5, 24, 25, 26]), (4, [0, 1, 3, 4, 5]), (2, [0, 1, 3, 4, 18]), (1, [0, 1, 3, 4]), (0, [0, 1, 3])], [(2, [0, 1, 3, 4, 5, 24, 25, 26]), (0, [0, 1, 3, 4])], [0], [5], [], [], [], [(14, [5])], [], []⟩
def f_lease_work_ladders_1 : Abs.Fn := ⟨2, [],
  (.seq (.reg [0, 1, 3] f_lease_work_ladders_1_r0) (.seq (.reg [0, 1, 3, 4] f_lease_work_ladders_1_r1) (.blk 0 (.loop [0, 1, 3, 4] true f_lease_work_ladders_1_l17))))⟩

theorem e_lease_work_ladders_1_r0 : type_of% f_lease_work_ladders_1_r0.eq_1 := by_rfl f_lease_work_ladders_1_r0.eq_1
theorem e_lease_work_ladders_1_r1 : type_of% f_lease_work_ladders_1_r1.eq_1 := by_rfl f_lease_work_ladders_1_r1.eq_1
theorem e_lease_work_ladders_1_r2 : type_of% f_lease_work_ladders_1_r2.eq_1 := by_rfl f_lease_work_ladders_1_r2.eq_1
theorem e_lease_work_ladders_1_r3 : type_of% f_lease_work_ladders_1_r3.eq_1 := by_rfl f_lease_work_ladders_1_r3.eq_1
theorem e_lease_work_ladders_1_r4 : type_of% f_lease_work_ladders_1_r4.eq_1 := by_rfl f_lease_work_ladders_1_r4.eq_1
theorem e_lease_work_ladders_1_r5 : type_of% f_lease_work_ladders_1_r5.eq_1 := by_rfl f_lease_work_ladders_1_r5.eq_1
theorem e_lease_work_ladders_1_r6 : type_of% f_lease_work_ladders_1_r6.eq_1 := by_rfl f_lease_work_ladders_1_r6.eq_1
theorem e_lease_work_ladders_1_r7 : type_of% f_lease_work_ladders_1_r7.eq_1 := by_rfl f_lease_work_ladders_1_r7.eq_1
theorem e_lease_work_ladders_1_r8 : type_of% f_lease_work_ladders_1_r8.eq_1 := by_rfl f_lease_work_ladders_1_r8.eq_1
theorem e_lease_work_ladders_1_r9 : type_of% f_lease_work_ladders_1_r9.eq_1 := by_rfl f_lease_work_ladders_1_r9.eq_1
theorem e_lease_work_ladders_1_r10 : type_of% f_lease_work_ladders_1_r10.eq_1 := by_rfl f_lease_work_ladders_1_r10.eq_1
theorem e_lease_work_ladders_1_r11 : type_of% f_lease_work_ladders_1_r11.eq_1 := by_rfl f_lease_work_ladders_1_r11.eq_1
theorem e_lease_work_ladders_1_r12 : type_of% f_lease_work_ladders_1_r12.eq_1 := by_rfl f_lease_work_ladders_1_r12.eq_1
theorem e_lease_work_ladders_1_l13 : type_of% f_lease_work_ladders_1_l13.eq_1 := by_rfl f_lease_work_ladders_1_l13.eq_1
theorem e_lease_work_ladders_1_r14 : type_of% f_lease_work_ladders_1_r14.eq_1 := by_rfl f_lease_work_ladders_1_r14.eq_1
theorem e_lease_work_ladders_1_r15 : type_of% f_lease_work_ladders_1_r15.eq_1 := by_rfl f_lease_work_ladders_1_r15.eq_1
theorem e_lease_work_ladders_1_r16 : type_of% f_lease_work_ladders_1_r16.eq_1 := by_rfl f_lease_work_ladders_1_r16.eq_1
theorem e_lease_work_ladders_1_l17 : type_of% f_lease_work_ladders_1_l17.eq_1 := by_rfl f_lease_work_ladders_1_l17.eq_1
theorem e_lease_work_ladders_1 : type_of% f_lease_work_ladders_1.eq_1 := by_rfl f_lease_work_ladders_1.eq_1
theorem ok_lease_work_ladders_1 : fnC Tryz.prog a_lease_work_ladders_1 Tryz.f106 = some f_lease_work_ladders_1 := by kernel_rfl

/-! 107 (fumarole/lease.work).breaks -/
def f_lease_work_breaks_r0 : List Abs.Op := [
  ⟨some 3, none, false, .boxi (.t 0)⟩,
  ⟨some 6, none, false, .mv (.c .nils)⟩]

def f_lease_work_breaks_r1 : List Abs.Op := [
  ⟨some 12, none, false, .bsm 1 1 [(.int .i64 0)] [(0, 1, (.c (.int .i64 100000000)))]⟩,
  ⟨some 7, none, false, .alc [] [.nils]⟩,
  ⟨none, none, false, .st [(0, 1)] 1 (.t 7) (.t 12)⟩]

def f_lease_work_breaks_r2 : List Abs.Op := [
  ⟨some 13, none, false, .mkf i_lease_work_breaks_1 [] [(.t 7)]⟩,
  ⟨some 8, none, false, .mv (.t 13)⟩]

def f_lease_work_breaks_r3 : List Abs.Op := [
  ⟨some 14, none, false, .fadr 0 (.t 3)⟩,
  ⟨some 15, none, false, .fadr 3 (.t 14)⟩,
  ⟨some 16, none, false, .ld false 1 (.t 15)⟩,
  ⟨some 17, none, false, .bin .add (.t 16) (.c (.int .i64 1))⟩,
  ⟨some 18, none, false, .mv (.c (.int .i64 0))⟩]

def f_lease_work_breaks_r4 : List Abs.Op := [
  ⟨some 19, none, false, .bin .lss (.t 18) (.t 17)⟩]

def f_lease_work_breaks_r5 : List Abs.Op := [
  ⟨some 20, none, false, .mv (.t 18)⟩,
  ⟨some 9, none, false, .mv (.t 20)⟩]

def f_lease_work_breaks_r6 : List Abs.Op := [
  ⟨some 21, none, true, .mv (.t 8)⟩,
  ⟨some 22, none, true, .fadr 0 (.t 3)⟩,
  ⟨some 23, none, true, .fadr 4 (.t 22)⟩,
  ⟨some 24, none, true, .ld false 1 (.t 23)⟩,
  ⟨some 25, none, true, .mv (.t 1)⟩,
  ⟨some 26, none, true, .idxS 2 (.t 24) (.t 25)⟩,
  ⟨some 27, none, true, .fadr 0 (.t 26)⟩,
  ⟨some 28, none, true, .ld false 1 (.t 27)⟩,
  ⟨some 29, none, true, .mv (.t 9)⟩,
  ⟨some 30, none, true, .fadr 0 (.t 3)⟩,
  ⟨some 31, none, true, .fadr 1 (.t 30)⟩,
  ⟨some 32, none, true, .ld false 1 (.t 31)⟩,
  ⟨some 33, none, true, .bin .mul (.t 29) (.t 32)⟩,
  ⟨some 34, none, true, .bin .sub (.t 28) (.t 33)⟩,
  ⟨some 35, none, true, .bin .sub (.t 34) (.c (.int .i64 1))⟩,
  ⟨some 36, none, false, .call false (.t 21) [(.t 35)]⟩]

def f_lease_work_breaks_r7 : List Abs.Op := [
  ⟨some 37, none, false, .mv (.t 2)⟩,
  ⟨some 38, none, false, .mv (.t 2)⟩,
  ⟨some 39, none, false, .lenS (.t 38)⟩,
  ⟨some 40, none, false, .bin .sub (.t 39) (.c (.int .i64 1))⟩,
  ⟨some 41, none, false, .mv (.t 2)⟩,
  ⟨some 42, none, false, .lenS (.t 41)⟩,
  ⟨some 43, none, false, .bin .sub (.t 42) (.c (.int .i64 1))⟩,
  ⟨some 44, none, false, .slc 2 (.t 37) none (some (.t 40)) (some (.t 43))⟩,
  ⟨some 45, none, false, .lenS (.t 44)⟩,
  ⟨some 46, none, false, .mv (.c (.int .i64 0))⟩]

def f_lease_work_breaks_r8 : List Abs.Op := [
  ⟨some 47, none, false, .bin .lss (.t 46) (.t 45)⟩]

def f_lease_work_breaks_r9 : List Abs.Op := [
  ⟨some 48, none, false, .idxS 2 (.t 44) (.t 46)⟩,
  ⟨some 49, none, false, .ld true 2 (.t 48)⟩,
  ⟨some 11, none, false, .alcv [] [(.int .i64 0), (.int .i64 0)]⟩,
  ⟨none, none, false, .stv 11 [] 2 11 (.t 49)⟩]

def f_lease_work_breaks_r10 : List Abs.Op := [
  ⟨some 50, none, false, .fadr 0 (.t 3)⟩,
  ⟨some 51, none, false, .fadr 2 (.t 50)⟩,
  ⟨some 52, none, false, .ld false 1 (.t 51)⟩,
  ⟨some 53, none, false, .bin .gtr (.t 52) (.c (.int .i64 0))⟩]

def f_lease_work_breaks_r11 : List Abs.Op := [
  ⟨some 54, none, true, .mv (.t 8)⟩,
  ⟨some 55, none, true, .fadr 0 (.t 11)⟩,
  ⟨some 56, none, true, .ldv 11 false 1 55⟩,
  ⟨some 57, none, true, .bin .add (.t 56) (.c (.int .i64 1))⟩,
  ⟨some 58, none, true, .bin .mul (.c (.int .i64 1000)) (.t 57)⟩,
  ⟨some 59, none, true, .fadr 0 (.t 3)⟩,
  ⟨some 60, none, true, .fadr 2 (.t 59)⟩,
  ⟨some 61, none, true, .ld false 1 (.t 60)⟩,
  ⟨some 62, none, true, .bin .add (.t 58) (.t 61)⟩,
  ⟨some 63, none, true, .bin .sub (.t 62) (.c (.int .i64 1))⟩,
  ⟨some 64, none, true, .fadr 0 (.t 3)⟩,
  ⟨some 65, none, true, .fadr 2 (.t 64)⟩,
  ⟨some 66, none, true, .ld false 1 (.t 65)⟩,
  ⟨some 67, none, true, .bin .quo (.t 63) (.t 66)⟩,
  ⟨some 68, none, true, .bin .sub (.t 67) (.c (.int .i64 1))⟩,
  ⟨some 69, none, true, .mv (.t 9)⟩,
  ⟨some 70, none, true, .fadr 0 (.t 3)⟩,
  ⟨some 71, none, true, .fadr 1 (.t 70)⟩,
  ⟨some 72, none, true, .ld false 1 (.t 71)⟩,
  ⟨some 73, none, true, .bin .mul (.t 69) (.t 72)⟩,
  ⟨some 74, none, true, .bin .sub (.t 68) (.t 73)⟩,
  ⟨some 75, none, false, .call false (.t 54) [(.t 74)]⟩]

def f_lease_work_breaks_r12 : List Abs.Op := [
  ⟨some 76, none, false, .bin .add (.t 46) (.c (.int .i64 1))⟩,
  ⟨some 46, none, false, .mv (.t 76)⟩]

def f_lease_work_breaks_l13 : Abs.Cmd :=
  (.seq (.reg [1, 2, 3, 7, 8, 9, 17, 18, 44, 45, 46, 47] f_lease_work_breaks_r8) (.seq (.ite (.t 47) .nop (.exit 2)) (.seq (.blk 3 (.seq (.reg [1, 2, 3, 7, 8, 9, 11, 17, 18, 44, 45, 46] f_lease_work_breaks_r9) (.seq (.reg [1, 2, 3, 7, 8, 9, 11, 17, 18, 44, 45, 46, 53] f_lease_work_breaks_r10) (.ite (.t 53) (.reg [1, 2, 3, 7, 8, 9, 17, 18, 44, 45, 46] f_lease_work_breaks_r11) .nop)))) (.reg [1, 2, 3, 7, 8, 9, 17, 18, 44, 45, 46] f_lease_work_breaks_r12))))

def f_lease_work_breaks_r14 : List Abs.Op := [
  ⟨some 77, none, false, .bin .add (.t 18) (.c (.int .i64 1))⟩,
  ⟨some 18, none, false, .mv (.t 77)⟩]

def f_lease_work_breaks_l15 : Abs.Cmd :=
  (.seq (.reg [1, 2, 3, 7, 8, 17, 18, 19] f_lease_work_breaks_r4) (.seq (.ite (.t 19) .nop (.exit 0)) (.seq (.blk 1 (.seq (.reg [1, 2, 3, 7, 8, 9, 17, 18] f_lease_work_breaks_r5) (.seq (.reg [1, 2, 3, 7, 8, 9, 17, 18] f_lease_work_breaks_r6) (.seq (.reg [1, 2, 3, 7, 8, 9, 17, 18, 44, 45, 46] f_lease_work_breaks_r7) (.blk 2 (.loop [1, 2, 3, 7, 8, 9, 17, 18, 44, 45, 46] false f_lease_work_breaks_l13)))))) (.reg [1, 2, 3, 7, 8, 17, 18] f_lease_work_breaks_r14))))

def f_lease_work_breaks_r16 : List Abs.Op := [
  ⟨some 78, none, false, .ld false 1 (.t 7)⟩,
  ⟨some 79, none, false, .call false (.c (.fn i_slices_Sort_int [] [])) [(.t 78)]⟩]

def f_lease_work_breaks_r17 : List Abs.Op := [
  ⟨some 80, none, false, .ld false 1 (.t 7)⟩,
  ⟨some 81, none, false, .call false (.c (.fn i_slices_Compact_int [] [])) [(.t 80)]⟩,
  ⟨some 6, none, false, .mv (.t 81)⟩]

def a_lease_work_breaks : Ann := ⟨[(15, [6]), (14, [7]), (13, [1, 2, 3, 7, 8, 17, 18]), (12, [1, 2, 3, 7, 8, 9, 17, 18, 44, 45, 46]), (11, [1, 2, 3, 7, 8, 9, 17, 18, 44, 45, 46]), (10, [1, 2, 3, 7, 8, 9, 11, 17, 18, 44, 45, 46, 53]), (9, [1, 2, 3, 7, 8, 9, 11, 17, 18, 44, 45, 46]), (8, [1, 2, 3, 7, 8, 9, 17, 18, 44, 45, 46, 47]), (7, [1, 2, 3, 7, 8, 9, 17, 18, 44, 45, 46]), (6, [1, 2, 3, 7, 8, 9, 17, 18]), (5, [1, 2, 3, 7, 8, 9, 17, 18]), (4, [1, 2, 3, 7, 8, 17, 18, 19]), (3, [1, 2, 3, 7, 8, 17, 18]), (2, [1, 2, 3, 7, 8]), (1, [1, 2, 3, 7]), (0, [1, 2, 3])], [(2, [1, 2, 3, 7, 8, 9, 17, 18, 44, 45, 46]), (0, [1, 2, 3, 7, 8, 17, 18])], [], [7, 11, 12], [11], [(1002, [(0, 1)])], [], [], [], []⟩
def f_lease_work_breaks : Abs.Fn := ⟨3, [.t 6],
  (.seq (.reg [1, 2, 3] f_lease_work_breaks_r0) (.seq (.reg [1, 2, 3, 7] f_lease_work_breaks_r1) (.seq (.reg [1, 2, 3, 7, 8] f_lease_work_breaks_r2) (.seq (.seq (.reg [1, 2, 3, 7, 8, 17, 18] f_lease_work_breaks_r3) (.blk 0 (.loop [1, 2, 3, 7, 8, 17, 18] false f_lease_work_breaks_l15))) (.seq (.reg [7] f_lease_work_breaks_r16) (.seq (.reg [6] f_lease_work_breaks_r17) .ret))))))⟩

theorem e_lease_work_breaks_r0 : type_of% f_lease_work_breaks_r0.eq_1 := by_rfl f_lease_work_breaks_r0.eq_1
theorem e_lease_work_breaks_r1 : type_of% f_lease_work_breaks_r1.eq_1 := by_rfl f_lease_work_breaks_r1.eq_1
theorem e_lease_work_breaks_r2 : type_of% f_lease_work_breaks_r2.eq_1 := by_rfl f_lease_work_breaks_r2.eq_1
theorem e_lease_work_breaks_r3 : type_of% f_lease_work_breaks_r3.eq_1 := by_rfl f_lease_work_breaks_r3.eq_1
theorem e_lease_work_breaks_r4 : type_of% f_lease_work_breaks_r4.eq_1 := by_rfl f_lease_work_breaks_r4.eq_1
theorem e_lease_work_breaks_r5 : type_of% f_lease_work_breaks_r5.eq_1 := by_rfl f_lease_work_breaks_r5.eq_1
theorem e_lease_work_breaks_r6 : type_of% f_lease_work_breaks_r6.eq_1 := by_rfl f_lease_work_breaks_r6.eq_1
theorem e_lease_work_breaks_r7 : type_of% f_lease_work_breaks_r7.eq_1 := by_rfl f_lease_work_breaks_r7.eq_1
theorem e_lease_work_breaks_r8 : type_of% f_lease_work_breaks_r8.eq_1 := by_rfl f_lease_work_breaks_r8.eq_1
theorem e_lease_work_breaks_r9 : type_of% f_lease_work_breaks_r9.eq_1 := by_rfl f_lease_work_breaks_r9.eq_1
theorem e_lease_work_breaks_r10 : type_of% f_lease_work_breaks_r10.eq_1 := by_rfl f_lease_work_breaks_r10.eq_1
theorem e_lease_work_breaks_r11 : type_of% f_lease_work_breaks_r11.eq_1 := by_rfl f_lease_work_breaks_r11.eq_1
theorem e_lease_work_breaks_r12 : type_of% f_lease_work_breaks_r12.eq_1 := by_rfl f_lease_work_breaks_r12.eq_1
theorem e_lease_work_breaks_l13 : type_of% f_lease_work_breaks_l13.eq_1 := by_rfl f_lease_work_breaks_l13.eq_1
theorem e_lease_work_breaks_r14 : type_of% f_lease_work_breaks_r14.eq_1 := by_rfl f_lease_work_breaks_r14.eq_1
theorem e_lease_work_breaks_l15 : type_of% f_lease_work_breaks_l15.eq_1 := by_rfl f_lease_work_breaks_l15.eq_1
theorem e_lease_work_breaks_r16 : type_of% f_lease_work_breaks_r16.eq_1 := by_rfl f_lease_work_breaks_r16.eq_1
theorem e_lease_work_breaks_r17 : type_of% f_lease_work_breaks_r17.eq_1 := by_rfl f_lease_work_breaks_r17.eq_1
theorem e_lease_work_breaks : type_of% f_lease_work_breaks.eq_1 := by_rfl f_lease_work_breaks.eq_1
theorem ok_lease_work_breaks : fnC Tryz.prog a_lease_work_breaks Tryz.f107 = some f_lease_work_breaks := by kernel_rfl

/-! 108 slices.ContainsFunc[[]fumarole/lease.Spring,fumarole/lease.Spring] -/
def f_slices_ContainsFunc_lease_Spring_r0 : List Abs.Op := [
  ⟨some 4, none, false, .mv (.c (.bool false))⟩]

def f_slices_ContainsFunc_lease_Spring_r1 : List Abs.Op := [
  ⟨some 5, none, false, .mv (.t 0)⟩,
  ⟨some 6, none, false, .mv (.t 1)⟩,
  ⟨some 7, none, false, .call false (.c (.fn i_slices_IndexFunc_lease_Spring [] [])) [(.t 5), (.t 6)]⟩,
  ⟨some 8, none, false, .bin .geq (.t 7) (.c (.int .i64 0))⟩,
  ⟨some 4, none, false, .mv (.t 8)⟩]

def a_slices_ContainsFunc_lease_Spring : Ann := ⟨[(1, [4]), (0, [0, 1])], [], [], [], [], [], [], [], [], []⟩
def f_slices_ContainsFunc_lease_Spring : Abs.Fn := ⟨2, [.t 4],
  (.seq (.reg [0, 1] f_slices_ContainsFunc_lease_Spring_r0) (.seq (.reg [4] f_slices_ContainsFunc_lease_Spring_r1) .ret))⟩

theorem e_slices_ContainsFunc_lease_Spring_r0 : type_of% f_slices_ContainsFunc_lease_Spring_r0.eq_1 := by_rfl f_slices_ContainsFunc_lease_Spring_r0.eq_1
theorem e_slices_ContainsFunc_lease_Spring_r1 : type_of% f_slices_ContainsFunc_lease_Spring_r1.eq_1 := by_rfl f_slices_ContainsFunc_lease_Spring_r1.eq_1
theorem e_slices_ContainsFunc_lease_Spring : type_of% f_slices_ContainsFunc_lease_Spring.eq_1 := by_rfl f_slices_ContainsFunc_lease_Spring.eq_1
theorem ok_slices_ContainsFunc_lease_Spring : fnC Tryz.prog a_slices_ContainsFunc_lease_Spring Tryz.f108 = some f_slices_ContainsFunc_lease_Spring := by kernel_rfl

/-! 109 fumarole/lease.all[fumarole/lease.Spring]$1 -/
def f_lease_all_lease_Spring_1_r0 : List Abs.Op := [
  ⟨some 2, none, false, .boxi (.t 0)⟩,
  ⟨some 3, none, false, .mv (.c (.bool false))⟩]

def f_lease_all_lease_Spring_1_r1 : List Abs.Op := [
  ⟨some 4, none, false, .ld false 1 (.t 1)⟩,
  ⟨some 5, none, false, .ld true 3 (.t 2)⟩,
  ⟨some 6, none, false, .call false (.t 4) [(.t 5)]⟩,
  ⟨some 7, none, false, .un .not (.t 6)⟩,
  ⟨some 3, none, false, .mv (.t 7)⟩]

def a_lease_all_lease_Spring_1 : Ann := ⟨[(1, [3]), (0, [1, 2])], [], [], [], [], [], [], [], [], []⟩
def f_lease_all_lease_Spring_1 : Abs.Fn := ⟨2, [.t 3],
  (.seq (.reg [1, 2] f_lease_all_lease_Spring_1_r0) (.seq (.reg [3] f_lease_all_lease_Spring_1_r1) .ret))⟩

theorem e_lease_all_lease_Spring_1_r0 : type_of% f_lease_all_lease_Spring_1_r0.eq_1 := by_rfl f_lease_all_lease_Spring_1_r0.eq_1
theorem e_lease_all_lease_Spring_1_r1 : type_of% f_lease_all_lease_Spring_1_r1.eq_1 := by_rfl f_lease_all_lease_Spring_1_r1.eq_1
theorem e_lease_all_lease_Spring_1 : type_of% f_lease_all_lease_Spring_1.eq_1 := by_rfl f_lease_all_lease_Spring_1.eq_1
theorem ok_lease_all_lease_Spring_1 : fnC Tryz.prog a_lease_all_lease_Spring_1 Tryz.f109 = some f_lease_all_lease_Spring_1 := by kernel_rfl

/-! 110 slices.ContainsFunc[[]fumarole/lease.Range,fumarole/lease.Range] -/
def f_slices_ContainsFunc_lease_Range_r0 : List Abs.Op := [
  ⟨some 4, none, false, .mv (.c (.bool false))⟩]

def f_slices_ContainsFunc_lease_Range_r1 : List Abs.Op := [
  ⟨some 5, none, false, .mv (.t 0)⟩,
  ⟨some 6, none, false, .mv (.t 1)⟩,
  ⟨some 7, none, false, .call false (.c (.fn i_slices_IndexFunc_lease_Range [] [])) [(.t 5), (.t 6)]⟩,
  ⟨some 8, none, false, .bin .geq (.t 7) (.c (.int .i64 0))⟩,
  ⟨some 4, none, false, .mv (.t 8)⟩]

def a_slices_ContainsFunc_lease_Range : Ann := ⟨[(1, [4]), (0, [0, 1])], [], [], [], [], [], [], [], [], []⟩
def f_slices_ContainsFunc_lease_Range : Abs.Fn := ⟨2, [.t 4],
  (.seq (.reg [0, 1] f_slices_ContainsFunc_lease_Range_r0) (.seq (.reg [4] f_slices_ContainsFunc_lease_Range_r1) .ret))⟩

theorem e_slices_ContainsFunc_lease_Range_r0 : type_of% f_slices_ContainsFunc_lease_Range_r0.eq_1 := by_rfl f_slices_ContainsFunc_lease_Range_r0.eq_1
theorem e_slices_ContainsFunc_lease_Range_r1 : type_of% f_slices_ContainsFunc_lease_Range_r1.eq_1 := by_rfl f_slices_ContainsFunc_lease_Range_r1.eq_1
theorem e_slices_ContainsFunc_lease_Range : type_of% f_slices_ContainsFunc_lease_Range.eq_1 := by_rfl f_slices_ContainsFunc_lease_Range.eq_1
theorem ok_slices_ContainsFunc_lease_Range : fnC Tryz.prog a_slices_ContainsFunc_lease_Range Tryz.f110 = some f_slices_ContainsFunc_lease_Range := by kernel_rfl

/-! 111 fumarole/lease.all[fumarole/lease.Range]$1 -/
def f_lease_all_lease_Range_1_r0 : List Abs.Op := [
  ⟨some 2, none, false, .boxi (.t 0)⟩,
  ⟨some 3, none, false, .mv (.c (.bool false))⟩]

def f_lease_all_lease_Range_1_r1 : List Abs.Op := [
  ⟨some 4, none, false, .ld false 1 (.t 1)⟩,
  ⟨some 5, none, false, .ld true 2 (.t 2)⟩,
  ⟨some 6, none, false, .call false (.t 4) [(.t 5)]⟩,
  ⟨some 7, none, false, .un .not (.t 6)⟩,
  ⟨some 3, none, false, .mv (.t 7)⟩]

def a_lease_all_lease_Range_1 : Ann := ⟨[(1, [3]), (0, [1, 2])], [], [], [], [], [], [], [], [], []⟩
def f_lease_all_lease_Range_1 : Abs.Fn := ⟨2, [.t 3],
  (.seq (.reg [1, 2] f_lease_all_lease_Range_1_r0) (.seq (.reg [3] f_lease_all_lease_Range_1_r1) .ret))⟩

theorem e_lease_all_lease_Range_1_r0 : type_of% f_lease_all_lease_Range_1_r0.eq_1 := by_rfl f_lease_all_lease_Range_1_r0.eq_1
theorem e_lease_all_lease_Range_1_r1 : type_of% f_lease_all_lease_Range_1_r1.eq_1 := by_rfl f_lease_all_lease_Range_1_r1.eq_1
theorem e_lease_all_lease_Range_1 : type_of% f_lease_all_lease_Range_1.eq_1 := by_rfl f_lease_all_lease_Range_1.eq_1
theorem ok_lease_all_lease_Range_1 : fnC Tryz.prog a_lease_all_lease_Range_1 Tryz.f111 = some f_lease_all_lease_Range_1 := by kernel_rfl

/-! 112 slices.ContainsFunc[[][]int,[]int] -/
def f_slices_ContainsFunc_L_int_r0 : List Abs.Op := [
  ⟨some 4, none, false, .mv (.c (.bool false))⟩]

def f_slices_ContainsFunc_L_int_r1 : List Abs.Op := [
  ⟨some 5, none, false, .mv (.t 0)⟩,
  ⟨some 6, none, false, .mv (.t 1)⟩,
  ⟨some 7, none, false, .call false (.c (.fn i_slices_IndexFunc_L_int [] [])) [(.t 5), (.t 6)]⟩,
  ⟨some 8, none, false, .bin .geq (.t 7) (.c (.int .i64 0))⟩,
  ⟨some 4, none, false, .mv (.t 8)⟩]

def a_slices_ContainsFunc_L_int : Ann := ⟨[(1, [4]), (0, [0, 1])], [], [], [], [], [], [], [], [], []⟩
def f_slices_ContainsFunc_L_int : Abs.Fn := ⟨2, [.t 4],
  (.seq (.reg [0, 1] f_slices_ContainsFunc_L_int_r0) (.seq (.reg [4] f_slices_ContainsFunc_L_int_r1) .ret))⟩

theorem e_slices_ContainsFunc_L_int_r0 : type_of% f_slices_ContainsFunc_L_int_r0.eq_1 := by_rfl f_slices_ContainsFunc_L_int_r0.eq_1
theorem e_slices_ContainsFunc_L_int_r1 : type_of% f_slices_ContainsFunc_L_int_r1.eq_1 := by_rfl f_slices_ContainsFunc_L_int_r1.eq_1
theorem e_slices_ContainsFunc_L_int : type_of% f_slices_ContainsFunc_L_int.eq_1 := by_rfl f_slices_ContainsFunc_L_int.eq_1
theorem ok_slices_ContainsFunc_L_int : fnC Tryz.prog a_slices_ContainsFunc_L_int Tryz.f112 = some f_slices_ContainsFunc_L_int := by kernel_rfl

/-! 113 fumarole/lease.all[[]int]$1 -/
def f_lease_all_L_int_1_r0 : List Abs.Op := [
  ⟨some 3, none, false, .mv (.c (.bool false))⟩]

def f_lease_all_L_int_1_r1 : List Abs.Op := [
  ⟨some 4, none, false, .ld false 1 (.t 1)⟩,
  ⟨some 5, none, false, .mv (.t 0)⟩,
  ⟨some 6, none, false, .call false (.t 4) [(.t 5)]⟩,
  ⟨some 7, none, false, .un .not (.t 6)⟩,
  ⟨some 3, none, false, .mv (.t 7)⟩]

def a_lease_all_L_int_1 : Ann := ⟨[(1, [3]), (0, [0, 1])], [], [], [], [], [], [], [], [], []⟩
def f_lease_all_L_int_1 : Abs.Fn := ⟨2, [.t 3],
  (.seq (.reg [0, 1] f_lease_all_L_int_1_r0) (.seq (.reg [3] f_lease_all_L_int_1_r1) .ret))⟩

theorem e_lease_all_L_int_1_r0 : type_of% f_lease_all_L_int_1_r0.eq_1 := by_rfl f_lease_all_L_int_1_r0.eq_1
theorem e_lease_all_L_int_1_r1 : type_of% f_lease_all_L_int_1_r1.eq_1 := by_rfl f_lease_all_L_int_1_r1.eq_1
theorem e_lease_all_L_int_1 : type_of% f_lease_all_L_int_1.eq_1 := by_rfl f_lease_all_L_int_1.eq_1
theorem ok_lease_all_L_int_1 : fnC Tryz.prog a_lease_all_L_int_1 Tryz.f113 = some f_lease_all_L_int_1 := by kernel_rfl

/-! 114 slices.IndexFunc[[][]fumarole/lease.Rung,[]fumarole/lease.Rung] -/
def f_slices_IndexFunc_L_lease_Rung_r0 : List Abs.Op := [
  ⟨some 4, none, false, .mv (.c (.int .i64 0))⟩]

def f_slices_IndexFunc_L_lease_Rung_r1 : List Abs.Op := [
  ⟨some 6, none, false, .mv (.t 0)⟩,
  ⟨some 7, none, false, .lenS (.t 6)⟩,
  ⟨some 8, none, false, .mv (.c (.int .i64 0))⟩]

def f_slices_IndexFunc_L_lease_Rung_r2 : List Abs.Op := [
  ⟨some 9, none, false, .bin .lss (.t 8) (.t 7)⟩]

def f_slices_IndexFunc_L_lease_Rung_r3 : List Abs.Op := [
  ⟨some 10, none, false, .mv (.t 8)⟩,
  ⟨some 5, none, false, .mv (.t 10)⟩]

def f_slices_IndexFunc_L_lease_Rung_r4 : List Abs.Op := [
  ⟨some 11, none, false, .mv (.t 1)⟩,
  ⟨some 12, none, false, .mv (.t 0)⟩,
  ⟨some 13, none, false, .mv (.t 5)⟩,
  ⟨some 14, none, false, .idxS 1 (.t 12) (.t 13)⟩,
  ⟨some 15, none, false, .ld false 1 (.t 14)⟩,
  ⟨some 16, none, false, .call false (.t 11) [(.t 15)]⟩]

def f_slices_IndexFunc_L_lease_Rung_r5 : List Abs.Op := [
  ⟨some 17, none, false, .mv (.t 5)⟩,
  ⟨some 4, none, false, .mv (.t 17)⟩]

def f_slices_IndexFunc_L_lease_Rung_r6 : List Abs.Op := [
  ⟨some 18, none, false, .bin .add (.t 8) (.c (.int .i64 1))⟩,
  ⟨some 8, none, false, .mv (.t 18)⟩]

def f_slices_IndexFunc_L_lease_Rung_l7 : Abs.Cmd :=
  (.seq (.reg [0, 1, 7, 8, 9] f_slices_IndexFunc_L_lease_Rung_r2) (.seq (.ite (.t 9) .nop (.exit 0)) (.seq (.blk 1 (.seq (.reg [0, 1, 5, 7, 8] f_slices_IndexFunc_L_lease_Rung_r3) (.seq (.reg [0, 1, 5, 7, 8, 16] f_slices_IndexFunc_L_lease_Rung_r4) (.ite (.t 16) (.seq (.reg [4] f_slices_IndexFunc_L_lease_Rung_r5) .ret) .nop)))) (.reg [0, 1, 7, 8] f_slices_IndexFunc_L_lease_Rung_r6))))

def f_slices_IndexFunc_L_lease_Rung_r8 : List Abs.Op := [
  ⟨some 4, none, false, .mv (.c (.int .i64 (-1)))⟩]

def a_slices_IndexFunc_L_lease_Rung : Ann := ⟨[(7, [4]), (6, [0, 1, 7, 8]), (5, [4]), (4, [0, 1, 5, 7, 8, 16]), (3, [0, 1, 5, 7, 8]), (2, [0, 1, 7, 8, 9]), (1, [0, 1, 7, 8]), (0, [0, 1])], [(0, [0, 1, 7, 8])], [], [], [], [], [], [], [], []⟩
def f_slices_IndexFunc_L_lease_Rung : Abs.Fn := ⟨2, [.t 4],
  (.seq (.reg [0, 1] f_slices_IndexFunc_L_lease_Rung_r0) (.seq (.seq (.reg [0, 1, 7, 8] f_slices_IndexFunc_L_lease_Rung_r1) (.blk 0 (.loop [0, 1, 7, 8] false f_slices_IndexFunc_L_lease_Rung_l7))) (.seq (.reg [4] f_slices_IndexFunc_L_lease_Rung_r8) .ret)))⟩

theorem e_slices_IndexFunc_L_lease_Rung_r0 : type_of% f_slices_IndexFunc_L_lease_Rung_r0.eq_1 := by_rfl f_slices_IndexFunc_L_lease_Rung_r0.eq_1
theorem e_slices_IndexFunc_L_lease_Rung_r1 : type_of% f_slices_IndexFunc_L_lease_Rung_r1.eq_1 := by_rfl f_slices_IndexFunc_L_lease_Rung_r1.eq_1
theorem e_slices_IndexFunc_L_lease_Rung_r2 : type_of% f_slices_IndexFunc_L_lease_Rung_r2.eq_1 := by_rfl f_slices_IndexFunc_L_lease_Rung_r2.eq_1
theorem e_slices_IndexFunc_L_lease_Rung_r3 : type_of% f_slices_IndexFunc_L_lease_Rung_r3.eq_1 := by_rfl f_slices_IndexFunc_L_lease_Rung_r3.eq_1
theorem e_slices_IndexFunc_L_lease_Rung_r4 : type_of% f_slices_IndexFunc_L_lease_Rung_r4.eq_1 := by_rfl f_slices_IndexFunc_L_lease_Rung_r4.eq_1
theorem e_slices_IndexFunc_L_lease_Rung_r5 : type_of% f_slices_IndexFunc_L_lease_Rung_r5.eq_1 := by_rfl f_slices_IndexFunc_L_lease_Rung_r5.eq_1
theorem e_slices_IndexFunc_L_lease_Rung_r6 : type_of% f_slices_IndexFunc_L_lease_Rung_r6.eq_1 := by_rfl f_slices_IndexFunc_L_lease_Rung_r6.eq_1
theorem e_slices_IndexFunc_L_lease_Rung_l7 : type_of% f_slices_IndexFunc_L_lease_Rung_l7.eq_1 := by_rfl f_slices_IndexFunc_L_lease_Rung_l7.eq_1
theorem e_slices_IndexFunc_L_lease_Rung_r8 : type_of% f_slices_IndexFunc_L_lease_Rung_r8.eq_1 := by_rfl f_slices_IndexFunc_L_lease_Rung_r8.eq_1
theorem e_slices_IndexFunc_L_lease_Rung : type_of% f_slices_IndexFunc_L_lease_Rung.eq_1 := by_rfl f_slices_IndexFunc_L_lease_Rung.eq_1
theorem ok_slices_IndexFunc_L_lease_Rung : fnC Tryz.prog a_slices_IndexFunc_L_lease_Rung Tryz.f114 = some f_slices_IndexFunc_L_lease_Rung := by kernel_rfl

/-! 115 slices.IndexFunc[[]int,int] -/
def f_slices_IndexFunc_int_r0 : List Abs.Op := [
  ⟨some 4, none, false, .mv (.c (.int .i64 0))⟩]

def f_slices_IndexFunc_int_r1 : List Abs.Op := [
  ⟨some 6, none, false, .mv (.t 0)⟩,
  ⟨some 7, none, false, .lenS (.t 6)⟩,
  ⟨some 8, none, false, .mv (.c (.int .i64 0))⟩]

def f_slices_IndexFunc_int_r2 : List Abs.Op := [
  ⟨some 9, none, false, .bin .lss (.t 8) (.t 7)⟩]

def f_slices_IndexFunc_int_r3 : List Abs.Op := [
  ⟨some 10, none, false, .mv (.t 8)⟩,
  ⟨some 5, none, false, .mv (.t 10)⟩]

def f_slices_IndexFunc_int_r4 : List Abs.Op := [
  ⟨some 11, none, false, .mv (.t 1)⟩,
  ⟨some 12, none, false, .mv (.t 0)⟩,
  ⟨some 13, none, false, .mv (.t 5)⟩,
  ⟨some 14, none, false, .idxS 1 (.t 12) (.t 13)⟩,
  ⟨some 15, none, false, .ld false 1 (.t 14)⟩,
  ⟨some 16, none, false, .call false (.t 11) [(.t 15)]⟩]

def f_slices_IndexFunc_int_r5 : List Abs.Op := [
  ⟨some 17, none, false, .mv (.t 5)⟩,
  ⟨some 4, none, false, .mv (.t 17)⟩]

def f_slices_IndexFunc_int_r6 : List Abs.Op := [
  ⟨some 18, none, false, .bin .add (.t 8) (.c (.int .i64 1))⟩,
  ⟨some 8, none, false, .mv (.t 18)⟩]

def f_slices_IndexFunc_int_l7 : Abs.Cmd :=
  (.seq (.reg [0, 1, 7, 8, 9] f_slices_IndexFunc_int_r2) (.seq (.ite (.t 9) .nop (.exit 0)) (.seq (.blk 1 (.seq (.reg [0, 1, 5, 7, 8] f_slices_IndexFunc_int_r3) (.seq (.reg [0, 1, 5, 7, 8, 16] f_slices_IndexFunc_int_r4) (.ite (.t 16) (.seq (.reg [4] f_slices_IndexFunc_int_r5) .ret) .nop)))) (.reg [0, 1, 7, 8] f_slices_IndexFunc_int_r6))))

def f_slices_IndexFunc_int_r8 : List Abs.Op := [
  ⟨some 4, none, false, .mv (.c (.int .i64 (-1)))⟩]

def a_slices_IndexFunc_int : Ann := ⟨[(7, [4]), (6, [0, 1, 7, 8]), (5, [4]), (4, [0, 1, 5, 7, 8, 16]), (3, [0, 1, 5, 7, 8]), (2, [0, 1, 7, 8, 9]), (1, [0, 1, 7, 8]), (0, [0, 1])], [(0, [0, 1, 7, 8])], [], [], [], [], [], [], [], []⟩
def f_slices_IndexFunc_int : Abs.Fn := ⟨2, [.t 4],
  (.seq (.reg [0, 1] f_slices_IndexFunc_int_r0) (.seq (.seq (.reg [0, 1, 7, 8] f_slices_IndexFunc_int_r1) (.blk 0 (.loop [0, 1, 7, 8] false f_slices_IndexFunc_int_l7))) (.seq (.reg [4] f_slices_IndexFunc_int_r8) .ret)))⟩

theorem e_slices_IndexFunc_int_r0 : type_of% f_slices_IndexFunc_int_r0.eq_1 := by_rfl f_slices_IndexFunc_int_r0.eq_1
theorem e_slices_IndexFunc_int_r1 : type_of% f_slices_IndexFunc_int_r1.eq_1 := by_rfl f_slices_IndexFunc_int_r1.eq_1
theorem e_slices_IndexFunc_int_r2 : type_of% f_slices_IndexFunc_int_r2.eq_1 := by_rfl f_slices_IndexFunc_int_r2.eq_1
theorem e_slices_IndexFunc_int_r3 : type_of% f_slices_IndexFunc_int_r3.eq_1 := by_rfl f_slices_IndexFunc_int_r3.eq_1
theorem e_slices_IndexFunc_int_r4 : type_of% f_slices_IndexFunc_int_r4.eq_1 := by_rfl f_slices_IndexFunc_int_r4.eq_1
theorem e_slices_IndexFunc_int_r5 : type_of% f_slices_IndexFunc_int_r5.eq_1 := by_rfl f_slices_IndexFunc_int_r5.eq_1
theorem e_slices_IndexFunc_int_r6 : type_of% f_slices_IndexFunc_int_r6.eq_1 := by_rfl f_slices_IndexFunc_int_r6.eq_1
theorem e_slices_IndexFunc_int_l7 : type_of% f_slices_IndexFunc_int_l7.eq_1 := by_rfl f_slices_IndexFunc_int_l7.eq_1
theorem e_slices_IndexFunc_int_r8 : type_of% f_slices_IndexFunc_int_r8.eq_1 := by_rfl f_slices_IndexFunc_int_r8.eq_1
theorem e_slices_IndexFunc_int : type_of% f_slices_IndexFunc_int.eq_1 := by_rfl f_slices_IndexFunc_int.eq_1
theorem ok_slices_IndexFunc_int : fnC Tryz.prog a_slices_IndexFunc_int Tryz.f115 = some f_slices_IndexFunc_int := by kernel_rfl

/-! 116 slices.stableCmpFunc[int] -/
def f_slices_stableCmpFunc_int_r0 : List Abs.Op := [
  ⟨some 6, none, false, .mv (.c (.int .i64 20))⟩]

def f_slices_stableCmpFunc_int_r1 : List Abs.Op := [
  ⟨some 10, none, false, .mv (.t 6)⟩,
  ⟨some 7, none, false, .mv (.c (.int .i64 0))⟩,
  ⟨some 8, none, false, .mv (.t 10)⟩]

def f_slices_stableCmpFunc_int_r2 : List Abs.Op := [
  ⟨some 11, none, false, .mv (.t 8)⟩,
  ⟨some 12, none, false, .mv (.t 1)⟩,
  ⟨some 13, none, false, .bin .leq (.t 11) (.t 12)⟩]

def f_slices_stableCmpFunc_int_r3 : List Abs.Op := [
  ⟨some 14, none, false, .mv (.t 0)⟩,
  ⟨some 15, none, false, .mv (.t 7)⟩,
  ⟨some 16, none, false, .mv (.t 8)⟩,
  ⟨some 17, none, false, .mv (.t 2)⟩,
  ⟨some 18, none, false, .call false (.c (.fn i_slices_insertionSortCmpFunc_int [] [])) [(.t 14), (.t 15), (.t 16), (.t 17)]⟩]

def f_slices_stableCmpFunc_int_r4 : List Abs.Op := [
  ⟨some 19, none, false, .mv (.t 8)⟩,
  ⟨some 7, none, false, .mv (.t 19)⟩]

def f_slices_stableCmpFunc_int_r5 : List Abs.Op := [
  ⟨some 20, none, false, .mv (.t 8)⟩,
  ⟨some 21, none, false, .mv (.t 6)⟩,
  ⟨some 22, none, false, .bin .add (.t 20) (.t 21)⟩,
  ⟨some 8, none, false, .mv (.t 22)⟩]

def f_slices_stableCmpFunc_int_l6 : Abs.Cmd :=
  (.seq (.seq (.reg [0, 1, 2, 6, 7, 8, 13] f_slices_stableCmpFunc_int_r2) (.ite (.t 13) .nop (.exit 0))) (.blk 1 (.seq (.reg [0, 1, 2, 6, 8] f_slices_stableCmpFunc_int_r3) (.seq (.reg [0, 1, 2, 6, 7, 8] f_slices_stableCmpFunc_int_r4) (.reg [0, 1, 2, 6, 7, 8] f_slices_stableCmpFunc_int_r5)))))

def f_slices_stableCmpFunc_int_r7 : List Abs.Op := [
  ⟨some 23, none, false, .mv (.t 0)⟩,
  ⟨some 24, none, false, .mv (.t 7)⟩,
  ⟨some 25, none, false, .mv (.t 1)⟩,
  ⟨some 26, none, false, .mv (.t 2)⟩,
  ⟨some 27, none, false, .call false (.c (.fn i_slices_insertionSortCmpFunc_int [] [])) [(.t 23), (.t 24), (.t 25), (.t 26)]⟩]

def f_slices_stableCmpFunc_int_r8 : List Abs.Op := [
  ⟨some 28, none, false, .mv (.t 6)⟩,
  ⟨some 29, none, false, .mv (.t 1)⟩,
  ⟨some 30, none, false, .bin .lss (.t 28) (.t 29)⟩]

def f_slices_stableCmpFunc_int_r9 : List Abs.Op := [
  ⟨some 31, none, false, .mv (.t 6)⟩,
  ⟨some 32, none, false, .bin .mul (.c (.int .i64 2)) (.t 31)⟩,
  ⟨some 7, none, false, .mv (.c (.int .i64 0))⟩,
  ⟨some 8, none, false, .mv (.t 32)⟩]

def f_slices_stableCmpFunc_int_r10 : List Abs.Op := [
  ⟨some 33, none, false, .mv (.t 8)⟩,
  ⟨some 34, none, false, .mv (.t 1)⟩,
  ⟨some 35, none, false, .bin .leq (.t 33) (.t 34)⟩]

def f_slices_stableCmpFunc_int_r11 : List Abs.Op := [
  ⟨some 36, none, false, .mv (.t 0)⟩,
  ⟨some 37, none, false, .mv (.t 7)⟩,
  ⟨some 38, none, false, .mv (.t 7)⟩,
  ⟨some 39, none, false, .mv (.t 6)⟩,
  ⟨some 40, none, false, .bin .add (.t 38) (.t 39)⟩,
  ⟨some 41, none, false, .mv (.t 8)⟩,
  ⟨some 42, none, false, .mv (.t 2)⟩,
  ⟨some 43, none, false, .call false (.c (.fn i_slices_symMergeCmpFunc_int [] [])) [(.t 36), (.t 37), (.t 40), (.t 41), (.t 42)]⟩]

def f_slices_stableCmpFunc_int_r12 : List Abs.Op := [
  ⟨some 44, none, false, .mv (.t 8)⟩,
  ⟨some 7, none, false, .mv (.t 44)⟩]

def f_slices_stableCmpFunc_int_r13 : List Abs.Op := [
  ⟨some 45, none, false, .mv (.t 8)⟩,
  ⟨some 46, none, false, .mv (.t 6)⟩,
  ⟨some 47, none, false, .bin .mul (.c (.int .i64 2)) (.t 46)⟩,
  ⟨some 48, none, false, .bin .add (.t 45) (.t 47)⟩,
  ⟨some 8, none, false, .mv (.t 48)⟩]

def f_slices_stableCmpFunc_int_l14 : Abs.Cmd :=
  (.seq (.seq (.reg [0, 1, 2, 6, 7, 8, 35] f_slices_stableCmpFunc_int_r10) (.ite (.t 35) .nop (.exit 4))) (.blk 5 (.seq (.reg [0, 1, 2, 6, 8] f_slices_stableCmpFunc_int_r11) (.seq (.reg [0, 1, 2, 6, 7, 8] f_slices_stableCmpFunc_int_r12) (.reg [0, 1, 2, 6, 7, 8] f_slices_stableCmpFunc_int_r13)))))

def f_slices_stableCmpFunc_int_r15 : List Abs.Op := [
  ⟨some 49, none, false, .mv (.t 7)⟩,
  ⟨some 50, none, false, .mv (.t 6)⟩,
  ⟨some 51, none, false, .bin .add (.t 49) (.t 50)⟩,
  ⟨some 9, none, false, .mv (.t 51)⟩]

def f_slices_stableCmpFunc_int_r16 : List Abs.Op := [
  ⟨some 52, none, false, .mv (.t 9)⟩,
  ⟨some 53, none, false, .mv (.t 1)⟩,
  ⟨some 54, none, false, .bin .lss (.t 52) (.t 53)⟩]

def f_slices_stableCmpFunc_int_r17 : List Abs.Op := [
  ⟨some 55, none, false, .mv (.t 0)⟩,
  ⟨some 56, none, false, .mv (.t 7)⟩,
  ⟨some 57, none, false, .mv (.t 9)⟩,
  ⟨some 58, none, false, .mv (.t 1)⟩,
  ⟨some 59, none, false, .mv (.t 2)⟩,
  ⟨some 60, none, false, .call false (.c (.fn i_slices_symMergeCmpFunc_int [] [])) [(.t 55), (.t 56), (.t 57), (.t 58), (.t 59)]⟩]

def f_slices_stableCmpFunc_int_r18 : List Abs.Op := [
  ⟨some 61, none, false, .mv (.t 6)⟩,
  ⟨some 62, none, false, .bin .mul (.t 61) (.c (.int .i64 2))⟩,
  ⟨some 6, none, false, .mv (.t 62)⟩]

def f_slices_stableCmpFunc_int_l19 : Abs.Cmd :=
  (.seq (.seq (.reg [0, 1, 2, 6, 30] f_slices_stableCmpFunc_int_r8) (.ite (.t 30) .nop (.exit 2))) (.blk 3 (.seq (.reg [0, 1, 2, 6, 7, 8] f_slices_stableCmpFunc_int_r9) (.seq (.blk 4 (.loop [0, 1, 2, 6, 7, 8] false f_slices_stableCmpFunc_int_l14)) (.seq (.seq (.reg [0, 1, 2, 6, 7, 9] f_slices_stableCmpFunc_int_r15) (.seq (.reg [0, 1, 2, 6, 7, 9, 54] f_slices_stableCmpFunc_int_r16) (.ite (.t 54) (.reg [0, 1, 2, 6] f_slices_stableCmpFunc_int_r17) .nop))) (.reg [0, 1, 2, 6] f_slices_stableCmpFunc_int_r18))))))

def a_slices_stableCmpFunc_int : Ann := ⟨[(16, [0, 1, 2, 6]), (15, [0, 1, 2, 6]), (14, [0, 1, 2, 6, 7, 9, 54]), (13, [0, 1, 2, 6, 7, 9]), (12, [0, 1, 2, 6, 7, 8]), (11, [0, 1, 2, 6, 7, 8]), (10, [0, 1, 2, 6, 8]), (9, [0, 1, 2, 6, 7, 8, 35]), (8, [0, 1, 2, 6, 7, 8]), (7, [0, 1, 2, 6, 30]), (6, [0, 1, 2, 6]), (5, [0, 1, 2, 6, 7, 8]), (4, [0, 1, 2, 6, 7, 8]), (3, [0, 1, 2, 6, 8]), (2, [0, 1, 2, 6, 7, 8, 13]), (1, [0, 1, 2, 6, 7, 8]), (0, [0, 1, 2, 6])], [(4, [0, 1, 2, 6, 7, 8]), (2, [0, 1, 2, 6]), (0, [0, 1, 2, 6, 7, 8])], [], [], [], [], [], [], [], []⟩
def f_slices_stableCmpFunc_int : Abs.Fn := ⟨3, [],
  (.seq (.reg [0, 1, 2, 6] f_slices_stableCmpFunc_int_r0) (.seq (.reg [0, 1, 2, 6, 7, 8] f_slices_stableCmpFunc_int_r1) (.seq (.blk 0 (.loop [0, 1, 2, 6, 7, 8] false f_slices_stableCmpFunc_int_l6)) (.seq (.reg [0, 1, 2, 6] f_slices_stableCmpFunc_int_r7) (.blk 2 (.loop [0, 1, 2, 6] false f_slices_stableCmpFunc_int_l19))))))⟩

theorem e_slices_stableCmpFunc_int_r0 : type_of% f_slices_stableCmpFunc_int_r0.eq_1 := by_rfl f_slices_stableCmpFunc_int_r0.eq_1
theorem e_slices_stableCmpFunc_int_r1 : type_of% f_slices_stableCmpFunc_int_r1.eq_1 := by_rfl f_slices_stableCmpFunc_int_r1.eq_1
theorem e_slices_stableCmpFunc_int_r2 : type_of% f_slices_stableCmpFunc_int_r2.eq_1 := by_rfl f_slices_stableCmpFunc_int_r2.eq_1
theorem e_slices_stableCmpFunc_int_r3 : type_of% f_slices_stableCmpFunc_int_r3.eq_1 := by_rfl f_slices_stableCmpFunc_int_r3.eq_1
theorem e_slices_stableCmpFunc_int_r4 : type_of% f_slices_stableCmpFunc_int_r4.eq_1 := by_rfl f_slices_stableCmpFunc_int_r4.eq_1
theorem e_slices_stableCmpFunc_int_r5 : type_of% f_slices_stableCmpFunc_int_r5.eq_1 := by_rfl f_slices_stableCmpFunc_int_r5.eq_1
theorem e_slices_stableCmpFunc_int_l6 : type_of% f_slices_stableCmpFunc_int_l6.eq_1 := by_rfl f_slices_stableCmpFunc_int_l6.eq_1
theorem e_slices_stableCmpFunc_int_r7 : type_of% f_slices_stableCmpFunc_int_r7.eq_1 := by_rfl f_slices_stableCmpFunc_int_r7.eq_1
theorem e_slices_stableCmpFunc_int_r8 : type_of% f_slices_stableCmpFunc_int_r8.eq_1 := by_rfl f_slices_stableCmpFunc_int_r8.eq_1
theorem e_slices_stableCmpFunc_int_r9 : type_of% f_slices_stableCmpFunc_int_r9.eq_1 := by_rfl f_slices_stableCmpFunc_int_r9.eq_1
theorem e_slices_stableCmpFunc_int_r10 : type_of% f_slices_stableCmpFunc_int_r10.eq_1 := by_rfl f_slices_stableCmpFunc_int_r10.eq_1
theorem e_slices_stableCmpFunc_int_r11 : type_of% f_slices_stableCmpFunc_int_r11.eq_1 := by_rfl f_slices_stableCmpFunc_int_r11.eq_1
theorem e_slices_stableCmpFunc_int_r12 : type_of% f_slices_stableCmpFunc_int_r12.eq_1 := by_rfl f_slices_stableCmpFunc_int_r12.eq_1
theorem e_slices_stableCmpFunc_int_r13 : type_of% f_slices_stableCmpFunc_int_r13.eq_1 := by_rfl f_slices_stableCmpFunc_int_r13.eq_1
theorem e_slices_stableCmpFunc_int_l14 : type_of% f_slices_stableCmpFunc_int_l14.eq_1 := by_rfl f_slices_stableCmpFunc_int_l14.eq_1
theorem e_slices_stableCmpFunc_int_r15 : type_of% f_slices_stableCmpFunc_int_r15.eq_1 := by_rfl f_slices_stableCmpFunc_int_r15.eq_1
theorem e_slices_stableCmpFunc_int_r16 : type_of% f_slices_stableCmpFunc_int_r16.eq_1 := by_rfl f_slices_stableCmpFunc_int_r16.eq_1
theorem e_slices_stableCmpFunc_int_r17 : type_of% f_slices_stableCmpFunc_int_r17.eq_1 := by_rfl f_slices_stableCmpFunc_int_r17.eq_1
theorem e_slices_stableCmpFunc_int_r18 : type_of% f_slices_stableCmpFunc_int_r18.eq_1 := by_rfl f_slices_stableCmpFunc_int_r18.eq_1
theorem e_slices_stableCmpFunc_int_l19 : type_of% f_slices_stableCmpFunc_int_l19.eq_1 := by_rfl f_slices_stableCmpFunc_int_l19.eq_1
theorem e_slices_stableCmpFunc_int : type_of% f_slices_stableCmpFunc_int.eq_1 := by_rfl f_slices_stableCmpFunc_int.eq_1
theorem ok_slices_stableCmpFunc_int : fnC Tryz.prog a_slices_stableCmpFunc_int Tryz.f116 = some f_slices_stableCmpFunc_int := by kernel_rfl

/-! 117 slices.IndexFunc[[]fumarole/lease.Year,fumarole/lease.Year] -/
def f_slices_IndexFunc_lease_Year_r0 : List Abs.Op := [
  ⟨some 4, none, false, .mv (.c (.int .i64 0))⟩]

def f_slices_IndexFunc_lease_Year_r1 : List Abs.Op := [
  ⟨some 6, none, false, .mv (.t 0)⟩,
  ⟨some 7, none, false, .lenS (.t 6)⟩,
  ⟨some 8, none, false, .mv (.c (.int .i64 0))⟩]

def f_slices_IndexFunc_lease_Year_r2 : List Abs.Op := [
  ⟨some 9, none, false, .bin .lss (.t 8) (.t 7)⟩]

def f_slices_IndexFunc_lease_Year_r3 : List Abs.Op := [
  ⟨some 10, none, false, .mv (.t 8)⟩,
  ⟨some 5, none, false, .mv (.t 10)⟩]

def f_slices_IndexFunc_lease_Year_r4 : List Abs.Op := [
  ⟨some 11, none, false, .mv (.t 1)⟩,
  ⟨some 12, none, false, .mv (.t 0)⟩,
  ⟨some 13, none, false, .mv (.t 5)⟩,
  ⟨some 14, none, false, .idxS 2 (.t 12) (.t 13)⟩,
  ⟨some 15, none, false, .ld true 2 (.t 14)⟩,
  ⟨some 16, none, false, .call false (.t 11) [(.t 15)]⟩]

def f_slices_IndexFunc_lease_Year_r5 : List Abs.Op := [
  ⟨some 17, none, false, .mv (.t 5)⟩,
  ⟨some 4, none, false, .mv (.t 17)⟩]

def f_slices_IndexFunc_lease_Year_r6 : List Abs.Op := [
  ⟨some 18, none, false, .bin .add (.t 8) (.c (.int .i64 1))⟩,
  ⟨some 8, none, false, .mv (.t 18)⟩]

def f_slices_IndexFunc_lease_Year_l7 : Abs.Cmd :=
  (.seq (.reg [0, 1, 7, 8, 9] f_slices_IndexFunc_lease_Year_r2) (.seq (.ite (.t 9) .nop (.exit 0)) (.seq (.blk 1 (.seq (.reg [0, 1, 5, 7, 8] f_slices_IndexFunc_lease_Year_r3) (.seq (.reg [0, 1, 5, 7, 8, 16] f_slices_IndexFunc_lease_Year_r4) (.ite (.t 16) (.seq (.reg [4] f_slices_IndexFunc_lease_Year_r5) .ret) .nop)))) (.reg [0, 1, 7, 8] f_slices_IndexFunc_lease_Year_r6))))

def f_slices_IndexFunc_lease_Year_r8 : List Abs.Op := [
  ⟨some 4, none, false, .mv (.c (.int .i64 (-1)))⟩]

def a_slices_IndexFunc_lease_Year : Ann := ⟨[(7, [4]), (6, [0, 1, 7, 8]), (5, [4]), (4, [0, 1, 5, 7, 8, 16]), (3, [0, 1, 5, 7, 8]), (2, [0, 1, 7, 8, 9]), (1, [0, 1, 7, 8]), (0, [0, 1])], [(0, [0, 1, 7, 8])], [], [], [], [], [], [], [], []⟩
def f_slices_IndexFunc_lease_Year : Abs.Fn := ⟨2, [.t 4],
  (.seq (.reg [0, 1] f_slices_IndexFunc_lease_Year_r0) (.seq (.seq (.reg [0, 1, 7, 8] f_slices_IndexFunc_lease_Year_r1) (.blk 0 (.loop [0, 1, 7, 8] false f_slices_IndexFunc_lease_Year_l7))) (.seq (.reg [4] f_slices_IndexFunc_lease_Year_r8) .ret)))⟩

theorem e_slices_IndexFunc_lease_Year_r0 : type_of% f_slices_IndexFunc_lease_Year_r0.eq_1 := by_rfl f_slices_IndexFunc_lease_Year_r0.eq_1
theorem e_slices_IndexFunc_lease_Year_r1 : type_of% f_slices_IndexFunc_lease_Year_r1.eq_1 := by_rfl f_slices_IndexFunc_lease_Year_r1.eq_1
theorem e_slices_IndexFunc_lease_Year_r2 : type_of% f_slices_IndexFunc_lease_Year_r2.eq_1 := by_rfl f_slices_IndexFunc_lease_Year_r2.eq_1
theorem e_slices_IndexFunc_lease_Year_r3 : type_of% f_slices_IndexFunc_lease_Year_r3.eq_1 := by_rfl f_slices_IndexFunc_lease_Year_r3.eq_1
theorem e_slices_IndexFunc_lease_Year_r4 : type_of% f_slices_IndexFunc_lease_Year_r4.eq_1 := by_rfl f_slices_IndexFunc_lease_Year_r4.eq_1
theorem e_slices_IndexFunc_lease_Year_r5 : type_of% f_slices_IndexFunc_lease_Year_r5.eq_1 := by_rfl f_slices_IndexFunc_lease_Year_r5.eq_1
theorem e_slices_IndexFunc_lease_Year_r6 : type_of% f_slices_IndexFunc_lease_Year_r6.eq_1 := by_rfl f_slices_IndexFunc_lease_Year_r6.eq_1
theorem e_slices_IndexFunc_lease_Year_l7 : type_of% f_slices_IndexFunc_lease_Year_l7.eq_1 := by_rfl f_slices_IndexFunc_lease_Year_l7.eq_1
theorem e_slices_IndexFunc_lease_Year_r8 : type_of% f_slices_IndexFunc_lease_Year_r8.eq_1 := by_rfl f_slices_IndexFunc_lease_Year_r8.eq_1
theorem e_slices_IndexFunc_lease_Year : type_of% f_slices_IndexFunc_lease_Year.eq_1 := by_rfl f_slices_IndexFunc_lease_Year.eq_1
theorem ok_slices_IndexFunc_lease_Year : fnC Tryz.prog a_slices_IndexFunc_lease_Year Tryz.f117 = some f_slices_IndexFunc_lease_Year := by kernel_rfl

/-! 118 (fumarole/lease.work).breaks$1 -/
def f_lease_work_breaks_1_r0 : List Abs.Op := [
  ⟨some 3, none, false, .mv (.t 0)⟩,
  ⟨some 4, none, false, .call false (.c (.fn i_lease_within [] [])) [(.t 3), (.c (.int .i64 0)), (.c (.int .i64 100000000))]⟩]

def f_lease_work_breaks_1_r1 : List Abs.Op := [
  ⟨some 5, none, false, .ld false 1 (.t 1)⟩,
  ⟨some 6, none, false, .mv (.t 0)⟩,
  ⟨some 7, none, false, .bsi 1 1 [(.int .i64 0)] [(0, 1, (.t 6))]⟩,
  ⟨some 8, none, false, .app 1 8 (.t 5) (.t 7)⟩,
  ⟨none, none, false, .st [(0, 1)] 1 (.t 1) (.t 8)⟩]

def a_lease_work_breaks_1 : Ann := ⟨[(1, []), (0, [0, 1, 4])], [], [], [1], [], [(1004, [(0, 1)])], [], [], [], []⟩
def f_lease_work_breaks_1 : Abs.Fn := ⟨2, [],
  (.seq (.reg [0, 1, 4] f_lease_work_breaks_1_r0) (.ite (.t 4) (.reg [] f_lease_work_breaks_1_r1) .nop))⟩

theorem e_lease_work_breaks_1_r0 : type_of% f_lease_work_breaks_1_r0.eq_1 := by_rfl f_lease_work_breaks_1_r0.eq_1
theorem e_lease_work_breaks_1_r1 : type_of% f_lease_work_breaks_1_r1.eq_1 := by_rfl f_lease_work_breaks_1_r1.eq_1
theorem e_lease_work_breaks_1 : type_of% f_lease_work_breaks_1.eq_1 := by_rfl f_lease_work_breaks_1.eq_1
theorem ok_lease_work_breaks_1 : fnC Tryz.prog a_lease_work_breaks_1 Tryz.f118 = some f_lease_work_breaks_1 := by kernel_rfl

/-! 121 slices.IndexFunc[[]fumarole/lease.Spring,fumarole/lease.Spring] -/
def f_slices_IndexFunc_lease_Spring_r0 : List Abs.Op := [
  ⟨some 4, none, false, .mv (.c (.int .i64 0))⟩]

def f_slices_IndexFunc_lease_Spring_r1 : List Abs.Op := [
  ⟨some 6, none, false, .mv (.t 0)⟩,
  ⟨some 7, none, false, .lenS (.t 6)⟩,
  ⟨some 8, none, false, .mv (.c (.int .i64 0))⟩]

def f_slices_IndexFunc_lease_Spring_r2 : List Abs.Op := [
  ⟨some 9, none, false, .bin .lss (.t 8) (.t 7)⟩]

def f_slices_IndexFunc_lease_Spring_r3 : List Abs.Op := [
  ⟨some 10, none, false, .mv (.t 8)⟩,
  ⟨some 5, none, false, .mv (.t 10)⟩]

def f_slices_IndexFunc_lease_Spring_r4 : List Abs.Op := [
  ⟨some 11, none, false, .mv (.t 1)⟩,
  ⟨some 12, none, false, .mv (.t 0)⟩,
  ⟨some 13, none, false, .mv (.t 5)⟩,
  ⟨some 14, none, false, .idxS 3 (.t 12) (.t 13)⟩,
  ⟨some 15, none, false, .ld true 3 (.t 14)⟩,
  ⟨some 16, none, false, .call false (.t 11) [(.t 15)]⟩]

def f_slices_IndexFunc_lease_Spring_r5 : List Abs.Op := [
  ⟨some 17, none, false, .mv (.t 5)⟩,
  ⟨some 4, none, false, .mv (.t 17)⟩]

def f_slices_IndexFunc_lease_Spring_r6 : List Abs.Op := [
  ⟨some 18, none, false, .bin .add (.t 8) (.c (.int .i64 1))⟩,
  ⟨some 8, none, false, .mv (.t 18)⟩]

def f_slices_IndexFunc_lease_Spring_l7 : Abs.Cmd :=
  (.seq (.reg [0, 1, 7, 8, 9] f_slices_IndexFunc_lease_Spring_r2) (.seq (.ite (.t 9) .nop (.exit 0)) (.seq (.blk 1 (.seq (.reg [0, 1, 5, 7, 8] f_slices_IndexFunc_lease_Spring_r3) (.seq (.reg [0, 1, 5, 7, 8, 16] f_slices_IndexFunc_lease_Spring_r4) (.ite (.t 16) (.seq (.reg [4] f_slices_IndexFunc_lease_Spring_r5) .ret) .nop)))) (.reg [0, 1, 7, 8] f_slices_IndexFunc_lease_Spring_r6))))

def f_slices_IndexFunc_lease_Spring_r8 : List Abs.Op := [
  ⟨some 4, none, false, .mv (.c (.int .i64 (-1)))⟩]

def a_slices_IndexFunc_lease_Spring : Ann := ⟨[(7, [4]), (6, [0, 1, 7, 8]), (5, [4]), (4, [0, 1, 5, 7, 8, 16]), (3, [0, 1, 5, 7, 8]), (2, [0, 1, 7, 8, 9]), (1, [0, 1, 7, 8]), (0, [0, 1])], [(0, [0, 1, 7, 8])], [], [], [], [], [], [], [], []⟩
def f_slices_IndexFunc_lease_Spring : Abs.Fn := ⟨2, [.t 4],
  (.seq (.reg [0, 1] f_slices_IndexFunc_lease_Spring_r0) (.seq (.seq (.reg [0, 1, 7, 8] f_slices_IndexFunc_lease_Spring_r1) (.blk 0 (.loop [0, 1, 7, 8] false f_slices_IndexFunc_lease_Spring_l7))) (.seq (.reg [4] f_slices_IndexFunc_lease_Spring_r8) .ret)))⟩

theorem e_slices_IndexFunc_lease_Spring_r0 : type_of% f_slices_IndexFunc_lease_Spring_r0.eq_1 := by_rfl f_slices_IndexFunc_lease_Spring_r0.eq_1
theorem e_slices_IndexFunc_lease_Spring_r1 : type_of% f_slices_IndexFunc_lease_Spring_r1.eq_1 := by_rfl f_slices_IndexFunc_lease_Spring_r1.eq_1
theorem e_slices_IndexFunc_lease_Spring_r2 : type_of% f_slices_IndexFunc_lease_Spring_r2.eq_1 := by_rfl f_slices_IndexFunc_lease_Spring_r2.eq_1
theorem e_slices_IndexFunc_lease_Spring_r3 : type_of% f_slices_IndexFunc_lease_Spring_r3.eq_1 := by_rfl f_slices_IndexFunc_lease_Spring_r3.eq_1
theorem e_slices_IndexFunc_lease_Spring_r4 : type_of% f_slices_IndexFunc_lease_Spring_r4.eq_1 := by_rfl f_slices_IndexFunc_lease_Spring_r4.eq_1
theorem e_slices_IndexFunc_lease_Spring_r5 : type_of% f_slices_IndexFunc_lease_Spring_r5.eq_1 := by_rfl f_slices_IndexFunc_lease_Spring_r5.eq_1
theorem e_slices_IndexFunc_lease_Spring_r6 : type_of% f_slices_IndexFunc_lease_Spring_r6.eq_1 := by_rfl f_slices_IndexFunc_lease_Spring_r6.eq_1
theorem e_slices_IndexFunc_lease_Spring_l7 : type_of% f_slices_IndexFunc_lease_Spring_l7.eq_1 := by_rfl f_slices_IndexFunc_lease_Spring_l7.eq_1
theorem e_slices_IndexFunc_lease_Spring_r8 : type_of% f_slices_IndexFunc_lease_Spring_r8.eq_1 := by_rfl f_slices_IndexFunc_lease_Spring_r8.eq_1
theorem e_slices_IndexFunc_lease_Spring : type_of% f_slices_IndexFunc_lease_Spring.eq_1 := by_rfl f_slices_IndexFunc_lease_Spring.eq_1
theorem ok_slices_IndexFunc_lease_Spring : fnC Tryz.prog a_slices_IndexFunc_lease_Spring Tryz.f121 = some f_slices_IndexFunc_lease_Spring := by kernel_rfl

/-! 122 slices.IndexFunc[[]fumarole/lease.Range,fumarole/lease.Range] -/
def f_slices_IndexFunc_lease_Range_r0 : List Abs.Op := [
  ⟨some 4, none, false, .mv (.c (.int .i64 0))⟩]

def f_slices_IndexFunc_lease_Range_r1 : List Abs.Op := [
  ⟨some 6, none, false, .mv (.t 0)⟩,
  ⟨some 7, none, false, .lenS (.t 6)⟩,
  ⟨some 8, none, false, .mv (.c (.int .i64 0))⟩]

def f_slices_IndexFunc_lease_Range_r2 : List Abs.Op := [
  ⟨some 9, none, false, .bin .lss (.t 8) (.t 7)⟩]

def f_slices_IndexFunc_lease_Range_r3 : List Abs.Op := [
  ⟨some 10, none, false, .mv (.t 8)⟩,
  ⟨some 5, none, false, .mv (.t 10)⟩]

def f_slices_IndexFunc_lease_Range_r4 : List Abs.Op := [
  ⟨some 11, none, false, .mv (.t 1)⟩,
  ⟨some 12, none, false, .mv (.t 0)⟩,
  ⟨some 13, none, false, .mv (.t 5)⟩,
  ⟨some 14, none, false, .idxS 2 (.t 12) (.t 13)⟩,
  ⟨some 15, none, false, .ld true 2 (.t 14)⟩,
  ⟨some 16, none, false, .call false (.t 11) [(.t 15)]⟩]

def f_slices_IndexFunc_lease_Range_r5 : List Abs.Op := [
  ⟨some 17, none, false, .mv (.t 5)⟩,
  ⟨some 4, none, false, .mv (.t 17)⟩]

def f_slices_IndexFunc_lease_Range_r6 : List Abs.Op := [
  ⟨some 18, none, false, .bin .add (.t 8) (.c (.int .i64 1))⟩,
  ⟨some 8, none, false, .mv (.t 18)⟩]

def f_slices_IndexFunc_lease_Range_l7 : Abs.Cmd :=
  (.seq (.reg [0, 1, 7, 8, 9] f_slices_IndexFunc_lease_Range_r2) (.seq (.ite (.t 9) .nop (.exit 0)) (.seq (.blk 1 (.seq (.reg [0, 1, 5, 7, 8] f_slices_IndexFunc_lease_Range_r3) (.seq (.reg [0, 1, 5, 7, 8, 16] f_slices_IndexFunc_lease_Range_r4) (.ite (.t 16) (.seq (.reg [4] f_slices_IndexFunc_lease_Range_r5) .ret) .nop)))) (.reg [0, 1, 7, 8] f_slices_IndexFunc_lease_Range_r6))))

def f_slices_IndexFunc_lease_Range_r8 : List Abs.Op := [
  ⟨some 4, none, false, .mv (.c (.int .i64 (-1)))⟩]

def a_slices_IndexFunc_lease_Range : Ann := ⟨[(7, [4]), (6, [0, 1, 7, 8]), (5, [4]), (4, [0, 1, 5, 7, 8, 16]), (3, [0, 1, 5, 7, 8]), (2, [0, 1, 7, 8, 9]), (1, [0, 1, 7, 8]), (0, [0, 1])], [(0, [0, 1, 7, 8])], [], [], [], [], [], [], [], []⟩
def f_slices_IndexFunc_lease_Range : Abs.Fn := ⟨2, [.t 4],
  (.seq (.reg [0, 1] f_slices_IndexFunc_lease_Range_r0) (.seq (.seq (.reg [0, 1, 7, 8] f_slices_IndexFunc_lease_Range_r1) (.blk 0 (.loop [0, 1, 7, 8] false f_slices_IndexFunc_lease_Range_l7))) (.seq (.reg [4] f_slices_IndexFunc_lease_Range_r8) .ret)))⟩

theorem e_slices_IndexFunc_lease_Range_r0 : type_of% f_slices_IndexFunc_lease_Range_r0.eq_1 := by_rfl f_slices_IndexFunc_lease_Range_r0.eq_1
theorem e_slices_IndexFunc_lease_Range_r1 : type_of% f_slices_IndexFunc_lease_Range_r1.eq_1 := by_rfl f_slices_IndexFunc_lease_Range_r1.eq_1
theorem e_slices_IndexFunc_lease_Range_r2 : type_of% f_slices_IndexFunc_lease_Range_r2.eq_1 := by_rfl f_slices_IndexFunc_lease_Range_r2.eq_1
theorem e_slices_IndexFunc_lease_Range_r3 : type_of% f_slices_IndexFunc_lease_Range_r3.eq_1 := by_rfl f_slices_IndexFunc_lease_Range_r3.eq_1
theorem e_slices_IndexFunc_lease_Range_r4 : type_of% f_slices_IndexFunc_lease_Range_r4.eq_1 := by_rfl f_slices_IndexFunc_lease_Range_r4.eq_1
theorem e_slices_IndexFunc_lease_Range_r5 : type_of% f_slices_IndexFunc_lease_Range_r5.eq_1 := by_rfl f_slices_IndexFunc_lease_Range_r5.eq_1
theorem e_slices_IndexFunc_lease_Range_r6 : type_of% f_slices_IndexFunc_lease_Range_r6.eq_1 := by_rfl f_slices_IndexFunc_lease_Range_r6.eq_1
theorem e_slices_IndexFunc_lease_Range_l7 : type_of% f_slices_IndexFunc_lease_Range_l7.eq_1 := by_rfl f_slices_IndexFunc_lease_Range_l7.eq_1
theorem e_slices_IndexFunc_lease_Range_r8 : type_of% f_slices_IndexFunc_lease_Range_r8.eq_1 := by_rfl f_slices_IndexFunc_lease_Range_r8.eq_1
theorem e_slices_IndexFunc_lease_Range : type_of% f_slices_IndexFunc_lease_Range.eq_1 := by_rfl f_slices_IndexFunc_lease_Range.eq_1
theorem ok_slices_IndexFunc_lease_Range : fnC Tryz.prog a_slices_IndexFunc_lease_Range Tryz.f122 = some f_slices_IndexFunc_lease_Range := by kernel_rfl

/-! 123 slices.IndexFunc[[][]int,[]int] -/
def f_slices_IndexFunc_L_int_r0 : List Abs.Op := [
  ⟨some 4, none, false, .mv (.c (.int .i64 0))⟩]

def f_slices_IndexFunc_L_int_r1 : List Abs.Op := [
  ⟨some 6, none, false, .mv (.t 0)⟩,
  ⟨some 7, none, false, .lenS (.t 6)⟩,
  ⟨some 8, none, false, .mv (.c (.int .i64 0))⟩]

def f_slices_IndexFunc_L_int_r2 : List Abs.Op := [
  ⟨some 9, none, false, .bin .lss (.t 8) (.t 7)⟩]

def f_slices_IndexFunc_L_int_r3 : List Abs.Op := [
  ⟨some 10, none, false, .mv (.t 8)⟩,
  ⟨some 5, none, false, .mv (.t 10)⟩]

def f_slices_IndexFunc_L_int_r4 : List Abs.Op := [
  ⟨some 11, none, false, .mv (.t 1)⟩,
  ⟨some 12, none, false, .mv (.t 0)⟩,
  ⟨some 13, none, false, .mv (.t 5)⟩,
  ⟨some 14, none, false, .idxS 1 (.t 12) (.t 13)⟩,
  ⟨some 15, none, false, .ld false 1 (.t 14)⟩,
  ⟨some 16, none, false, .call false (.t 11) [(.t 15)]⟩]

def f_slices_IndexFunc_L_int_r5 : List Abs.Op := [
  ⟨some 17, none, false, .mv (.t 5)⟩,
  ⟨some 4, none, false, .mv (.t 17)⟩]

def f_slices_IndexFunc_L_int_r6 : List Abs.Op := [
  ⟨some 18, none, false, .bin .add (.t 8) (.c (.int .i64 1))⟩,
  ⟨some 8, none, false, .mv (.t 18)⟩]

def f_slices_IndexFunc_L_int_l7 : Abs.Cmd :=
  (.seq (.reg [0, 1, 7, 8, 9] f_slices_IndexFunc_L_int_r2) (.seq (.ite (.t 9) .nop (.exit 0)) (.seq (.blk 1 (.seq (.reg [0, 1, 5, 7, 8] f_slices_IndexFunc_L_int_r3) (.seq (.reg [0, 1, 5, 7, 8, 16] f_slices_IndexFunc_L_int_r4) (.ite (.t 16) (.seq (.reg [4] f_slices_IndexFunc_L_int_r5) .ret) .nop)))) (.reg [0, 1, 7, 8] f_slices_IndexFunc_L_int_r6))))

def f_slices_IndexFunc_L_int_r8 : List Abs.Op := [
  ⟨some 4, none, false, .mv (.c (.int .i64 (-1)))⟩]

def a_slices_IndexFunc_L_int : Ann := ⟨[(7, [4]), (6, [0, 1, 7, 8]), (5, [4]), (4, [0, 1, 5, 7, 8, 16]), (3, [0, 1, 5, 7, 8]), (2, [0, 1, 7, 8, 9]), (1, [0, 1, 7, 8]), (0, [0, 1])], [(0, [0, 1, 7, 8])], [], [], [], [], [], [], [], []⟩
def f_slices_IndexFunc_L_int : Abs.Fn := ⟨2, [.t 4],
  (.seq (.reg [0, 1] f_slices_IndexFunc_L_int_r0) (.seq (.seq (.reg [0, 1, 7, 8] f_slices_IndexFunc_L_int_r1) (.blk 0 (.loop [0, 1, 7, 8] false f_slices_IndexFunc_L_int_l7))) (.seq (.reg [4] f_slices_IndexFunc_L_int_r8) .ret)))⟩

theorem e_slices_IndexFunc_L_int_r0 : type_of% f_slices_IndexFunc_L_int_r0.eq_1 := by_rfl f_slices_IndexFunc_L_int_r0.eq_1
theorem e_slices_IndexFunc_L_int_r1 : type_of% f_slices_IndexFunc_L_int_r1.eq_1 := by_rfl f_slices_IndexFunc_L_int_r1.eq_1
theorem e_slices_IndexFunc_L_int_r2 : type_of% f_slices_IndexFunc_L_int_r2.eq_1 := by_rfl f_slices_IndexFunc_L_int_r2.eq_1
theorem e_slices_IndexFunc_L_int_r3 : type_of% f_slices_IndexFunc_L_int_r3.eq_1 := by_rfl f_slices_IndexFunc_L_int_r3.eq_1
theorem e_slices_IndexFunc_L_int_r4 : type_of% f_slices_IndexFunc_L_int_r4.eq_1 := by_rfl f_slices_IndexFunc_L_int_r4.eq_1
theorem e_slices_IndexFunc_L_int_r5 : type_of% f_slices_IndexFunc_L_int_r5.eq_1 := by_rfl f_slices_IndexFunc_L_int_r5.eq_1
theorem e_slices_IndexFunc_L_int_r6 : type_of% f_slices_IndexFunc_L_int_r6.eq_1 := by_rfl f_slices_IndexFunc_L_int_r6.eq_1
theorem e_slices_IndexFunc_L_int_l7 : type_of% f_slices_IndexFunc_L_int_l7.eq_1 := by_rfl f_slices_IndexFunc_L_int_l7.eq_1
theorem e_slices_IndexFunc_L_int_r8 : type_of% f_slices_IndexFunc_L_int_r8.eq_1 := by_rfl f_slices_IndexFunc_L_int_r8.eq_1
theorem e_slices_IndexFunc_L_int : type_of% f_slices_IndexFunc_L_int.eq_1 := by_rfl f_slices_IndexFunc_L_int.eq_1
theorem ok_slices_IndexFunc_L_int : fnC Tryz.prog a_slices_IndexFunc_L_int Tryz.f123 = some f_slices_IndexFunc_L_int := by kernel_rfl

/-! 124 slices.insertionSortCmpFunc[int] -/
def f_slices_insertionSortCmpFunc_int_r0 : List Abs.Op := [
  ⟨some 10, none, false, .mv (.t 1)⟩,
  ⟨some 11, none, false, .bin .add (.t 10) (.c (.int .i64 1))⟩,
  ⟨some 8, none, false, .mv (.t 11)⟩]

def f_slices_insertionSortCmpFunc_int_r1 : List Abs.Op := [
  ⟨some 12, none, false, .mv (.t 8)⟩,
  ⟨some 13, none, false, .mv (.t 2)⟩,
  ⟨some 14, none, false, .bin .lss (.t 12) (.t 13)⟩]

def f_slices_insertionSortCmpFunc_int_r2 : List Abs.Op := [
  ⟨some 17, none, false, .mv (.t 8)⟩,
  ⟨some 9, none, false, .mv (.t 17)⟩]

def f_slices_insertionSortCmpFunc_int_r3 : List Abs.Op := [
  ⟨some 18, none, true, .mv (.t 9)⟩,
  ⟨some 19, none, true, .mv (.t 1)⟩,
  ⟨some 20, none, true, .bin .gtr (.t 18) (.t 19)⟩,
  ⟨some 21, none, true, .mv (.t 20)⟩,
  ⟨some 22, some (21, true), true, .mv (.t 3)⟩,
  ⟨some 23, some (21, true), true, .mv (.t 0)⟩,
  ⟨some 24, some (21, true), true, .mv (.t 9)⟩,
  ⟨some 25, some (21, true), true, .idxS 1 (.t 23) (.t 24)⟩,
  ⟨some 26, some (21, true), true, .ld false 1 (.t 25)⟩,
  ⟨some 27, some (21, true), true, .mv (.t 0)⟩,
  ⟨some 28, some (21, true), true, .mv (.t 9)⟩,
  ⟨some 29, some (21, true), true, .bin .sub (.t 28) (.c (.int .i64 1))⟩,
  ⟨some 30, some (21, true), true, .idxS 1 (.t 27) (.t 29)⟩,
  ⟨some 31, some (21, true), true, .ld false 1 (.t 30)⟩,
  ⟨some 32, some (21, true), false, .call false (.t 22) [(.t 26), (.t 31)]⟩,
  ⟨some 33, some (21, true), false, .bin .lss (.t 32) (.c (.int .i64 0))⟩,
  ⟨some 34, none, false, .pick (.t 21) (.t 33) (.c (.bool false))⟩]

def f_slices_insertionSortCmpFunc_int_r4 : List Abs.Op := [
  ⟨some 37, none, true, .mv (.t 0)⟩,
  ⟨some 38, none, true, .mv (.t 9)⟩,
  ⟨some 39, none, true, .mv (.t 0)⟩,
  ⟨some 40, none, true, .mv (.t 9)⟩,
  ⟨some 41, none, true, .bin .sub (.t 40) (.c (.int .i64 1))⟩,
  ⟨some 42, none, true, .mv (.t 0)⟩,
  ⟨some 43, none, true, .mv (.t 9)⟩,
  ⟨some 44, none, true, .bin .sub (.t 43) (.c (.int .i64 1))⟩,
  ⟨some 45, none, true, .idxS 1 (.t 42) (.t 44)⟩,
  ⟨some 46, none, true, .ld false 1 (.t 45)⟩,
  ⟨some 47, none, true, .mv (.t 0)⟩,
  ⟨some 48, none, true, .mv (.t 9)⟩,
  ⟨some 49, none, true, .idxS 1 (.t 47) (.t 48)⟩,
  ⟨some 50, none, true, .ld false 1 (.t 49)⟩,
  ⟨some 51, none, true, .idxS 1 (.t 37) (.t 38)⟩,
  ⟨none, none, true, .st [] 1 (.t 51) (.t 46)⟩,
  ⟨some 52, none, false, .idxS 1 (.t 39) (.t 41)⟩,
  ⟨none, none, false, .st [] 1 (.t 52) (.t 50)⟩]

def f_slices_insertionSortCmpFunc_int_r5 : List Abs.Op := [
  ⟨some 35, none, false, .mv (.t 9)⟩,
  ⟨some 36, none, false, .bin .sub (.t 35) (.c (.int .i64 1))⟩,
  ⟨some 9, none, false, .mv (.t 36)⟩]

def f_slices_insertionSortCmpFunc_int_l6 : Abs.Cmd :=
  (.seq (.seq (.reg [0, 1, 2, 3, 8, 9, 34] f_slices_insertionSortCmpFunc_int_r3) (.ite (.t 34) .nop (.exit 2))) (.seq (.blk 3 (.reg [0, 1, 2, 3, 8, 9] f_slices_insertionSortCmpFunc_int_r4)) (.reg [0, 1, 2, 3, 8, 9] f_slices_insertionSortCmpFunc_int_r5)))

def f_slices_insertionSortCmpFunc_int_r7 : List Abs.Op := [
  ⟨some 15, none, false, .mv (.t 8)⟩,
  ⟨some 16, none, false, .bin .add (.t 15) (.c (.int .i64 1))⟩,
  ⟨some 8, none, false, .mv (.t 16)⟩]

def f_slices_insertionSortCmpFunc_int_l8 : Abs.Cmd :=
  (.seq (.seq (.reg [0, 1, 2, 3, 8, 14] f_slices_insertionSortCmpFunc_int_r1) (.ite (.t 14) .nop (.exit 0))) (.seq (.blk 1 (.seq (.reg [0, 1, 2, 3, 8, 9] f_slices_insertionSortCmpFunc_int_r2) (.blk 2 (.loop [0, 1, 2, 3, 8, 9] false f_slices_insertionSortCmpFunc_int_l6)))) (.reg [0, 1, 2, 3, 8] f_slices_insertionSortCmpFunc_int_r7)))

def a_slices_insertionSortCmpFunc_int : Ann := ⟨[(2, [0, 1, 2, 3, 8]), (5, [0, 1, 2, 3, 8, 9]), (6, [0, 1, 2, 3, 8, 9]), (4, [0, 1, 2, 3, 8, 9, 34]), (3, [0, 1, 2, 3, 8, 9]), (1, [0, 1, 2, 3, 8, 14]), (0, [0, 1, 2, 3, 8])], [(2, [0, 1, 2, 3, 8, 9]), (0, [0, 1, 2, 3, 8])], [], [], [], [], [], [], [], []⟩
def f_slices_insertionSortCmpFunc_int : Abs.Fn := ⟨4, [],
  (.seq (.reg [0, 1, 2, 3, 8] f_slices_insertionSortCmpFunc_int_r0) (.blk 0 (.loop [0, 1, 2, 3, 8] false f_slices_insertionSortCmpFunc_int_l8)))⟩

theorem e_slices_insertionSortCmpFunc_int_r0 : type_of% f_slices_insertionSortCmpFunc_int_r0.eq_1 := by_rfl f_slices_insertionSortCmpFunc_int_r0.eq_1
theorem e_slices_insertionSortCmpFunc_int_r1 : type_of% f_slices_insertionSortCmpFunc_int_r1.eq_1 := by_rfl f_slices_insertionSortCmpFunc_int_r1.eq_1
theorem e_slices_insertionSortCmpFunc_int_r2 : type_of% f_slices_insertionSortCmpFunc_int_r2.eq_1 := by_rfl f_slices_insertionSortCmpFunc_int_r2.eq_1
theorem e_slices_insertionSortCmpFunc_int_r3 : type_of% f_slices_insertionSortCmpFunc_int_r3.eq_1 := by_rfl f_slices_insertionSortCmpFunc_int_r3.eq_1
theorem e_slices_insertionSortCmpFunc_int_r4 : type_of% f_slices_insertionSortCmpFunc_int_r4.eq_1 := by_rfl f_slices_insertionSortCmpFunc_int_r4.eq_1
theorem e_slices_insertionSortCmpFunc_int_r5 : type_of% f_slices_insertionSortCmpFunc_int_r5.eq_1 := by_rfl f_slices_insertionSortCmpFunc_int_r5.eq_1
theorem e_slices_insertionSortCmpFunc_int_l6 : type_of% f_slices_insertionSortCmpFunc_int_l6.eq_1 := by_rfl f_slices_insertionSortCmpFunc_int_l6.eq_1
theorem e_slices_insertionSortCmpFunc_int_r7 : type_of% f_slices_insertionSortCmpFunc_int_r7.eq_1 := by_rfl f_slices_insertionSortCmpFunc_int_r7.eq_1
theorem e_slices_insertionSortCmpFunc_int_l8 : type_of% f_slices_insertionSortCmpFunc_int_l8.eq_1 := by_rfl f_slices_insertionSortCmpFunc_int_l8.eq_1
theorem e_slices_insertionSortCmpFunc_int : type_of% f_slices_insertionSortCmpFunc_int.eq_1 := by_rfl f_slices_insertionSortCmpFunc_int.eq_1
theorem ok_slices_insertionSortCmpFunc_int : fnC Tryz.prog a_slices_insertionSortCmpFunc_int Tryz.f124 = some f_slices_insertionSortCmpFunc_int := by kernel_rfl

end Go.Proofs.YtcccafphhmcifaaGreat
