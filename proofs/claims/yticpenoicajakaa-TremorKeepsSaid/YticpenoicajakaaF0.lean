/- The code of functions of the program, in the small instruction set; each is what the translation makes of it. -/
import Derived.Test.YticpenoicajakaaIds
set_option linter.unusedVariables false
set_option maxRecDepth 100000
namespace Go.Proofs.Yticpenoicajakaa
open Go Go.Abs
/-! 3 fumarole/fumarolelaw09.TremorLocates -/
def f_law09_TremorLocates_r0 : List Abs.Op := [
  ⟨some 2, none, false, .boxi (.t 0)⟩,
  ⟨some 4, none, false, .mv (.c (.bool false))⟩]

def f_law09_TremorLocates_r1 : List Abs.Op := [
  ⟨some 9, none, false, .ld true 12 (.t 2)⟩,
  ⟨some 10, none, false, .mv (.t 1)⟩,
  ⟨some 11, none, false, .call false (.c (.fn i_law09_few [] [])) [(.t 9), (.t 10)]⟩,
  ⟨some 12, none, false, .un .not (.t 11)⟩]

def f_law09_TremorLocates_r2 : List Abs.Op := [
  ⟨some 13, none, false, .call false (.c (.fn i_law09_awake [] [])) []⟩,
  ⟨some 4, none, false, .mv (.t 13)⟩]

def f_law09_TremorLocates_r3 : List Abs.Op := [
  ⟨some 15, none, false, .ld true 12 (.t 2)⟩,
  ⟨some 16, none, false, .call false (.c (.fn i_law09_Net [] [])) [(.t 15)]⟩,
  ⟨some 17, none, false, .mv (.t 1)⟩,
  ⟨some 18, none, false, .call false (.c (.fn i_law09_Picks [] [])) [(.t 17)]⟩,
  ⟨some 19, none, false, .call false (.c (.fn i_tremor_Locate [] [])) [(.t 16), (.t 18)]⟩,
  ⟨some 14, none, false, .mv (.t 19)⟩,
  ⟨some 20, none, false, .ext (.t 14) 0⟩,
  ⟨some 21, none, false, .ext (.t 14) 1⟩,
  ⟨some 5, none, false, .mv (.t 20)⟩,
  ⟨some 6, none, false, .mv (.t 21)⟩]

def f_law09_TremorLocates_r4 : List Abs.Op := [
  ⟨some 22, none, false, .ld true 12 (.t 2)⟩,
  ⟨some 23, none, false, .mv (.t 1)⟩,
  ⟨some 24, none, false, .call false (.c (.fn i_law09_wrong [] [])) [(.t 22), (.t 23)]⟩,
  ⟨some 7, none, false, .mv (.t 24)⟩]

def f_law09_TremorLocates_r5 : List Abs.Op := [
  ⟨some 25, none, false, .mv (.t 7)⟩,
  ⟨some 26, none, false, .bin .neq (.t 25) (.c (.int .i64 0))⟩]

def f_law09_TremorLocates_r6 : List Abs.Op := [
  ⟨some 27, none, false, .mv (.t 6)⟩,
  ⟨some 28, none, false, .mv (.t 7)⟩,
  ⟨some 29, none, false, .bin .eql (.t 27) (.t 28)⟩,
  ⟨some 30, none, false, .mv (.t 29)⟩,
  ⟨some 31, some (30, true), false, .mv (.t 5)⟩,
  ⟨some 32, some (30, true), false, .lenS (.t 31)⟩,
  ⟨some 33, some (30, true), false, .bin .eql (.t 32) (.c (.int .i64 0))⟩,
  ⟨some 34, none, false, .pick (.t 30) (.t 33) (.c (.bool false))⟩,
  ⟨some 35, none, false, .mv (.t 34)⟩,
  ⟨some 36, some (35, true), false, .call false (.c (.fn i_law09_awake [] [])) []⟩,
  ⟨some 37, none, false, .pick (.t 35) (.t 36) (.c (.bool false))⟩,
  ⟨some 4, none, false, .mv (.t 37)⟩]

def f_law09_TremorLocates_r7 : List Abs.Op := [
  ⟨some 38, none, false, .ld true 12 (.t 2)⟩,
  ⟨some 39, none, false, .mv (.t 1)⟩,
  ⟨some 40, none, false, .call false (.c (.fn i_ref09_Locate [] [])) [(.t 38), (.t 39)]⟩,
  ⟨some 8, none, false, .mv (.t 40)⟩]

def f_law09_TremorLocates_r8 : List Abs.Op := [
  ⟨some 41, none, false, .mv (.t 8)⟩,
  ⟨some 42, none, false, .lenS (.t 41)⟩,
  ⟨some 43, none, false, .bin .eql (.t 42) (.c (.int .i64 0))⟩]

def f_law09_TremorLocates_r9 : List Abs.Op := [
  ⟨some 44, none, false, .mv (.t 6)⟩,
  ⟨some 45, none, false, .bin .eql (.t 44) (.c (.int .i64 7))⟩,
  ⟨some 46, none, false, .mv (.t 45)⟩,
  ⟨some 47, some (46, true), false, .mv (.t 5)⟩,
  ⟨some 48, some (46, true), false, .lenS (.t 47)⟩,
  ⟨some 49, some (46, true), false, .bin .eql (.t 48) (.c (.int .i64 0))⟩,
  ⟨some 50, none, false, .pick (.t 46) (.t 49) (.c (.bool false))⟩,
  ⟨some 51, none, false, .mv (.t 50)⟩,
  ⟨some 52, some (51, true), false, .call false (.c (.fn i_law09_awake [] [])) []⟩,
  ⟨some 53, none, false, .pick (.t 51) (.t 52) (.c (.bool false))⟩,
  ⟨some 4, none, false, .mv (.t 53)⟩]

def f_law09_TremorLocates_r10 : List Abs.Op := [
  ⟨some 54, none, false, .mv (.t 6)⟩,
  ⟨some 55, none, false, .bin .eql (.t 54) (.c (.int .i64 0))⟩,
  ⟨some 56, none, false, .mv (.t 55)⟩,
  ⟨some 57, some (56, true), false, .mv (.t 5)⟩,
  ⟨some 58, some (56, true), false, .mv (.t 8)⟩,
  ⟨some 59, some (56, true), false, .call false (.c (.fn i_law09_located [] [])) [(.t 57), (.t 58)]⟩,
  ⟨some 60, none, false, .pick (.t 56) (.t 59) (.c (.bool false))⟩,
  ⟨some 61, none, false, .mv (.t 60)⟩,
  ⟨some 62, some (61, true), false, .call false (.c (.fn i_law09_awake [] [])) []⟩,
  ⟨some 63, none, false, .pick (.t 61) (.t 62) (.c (.bool false))⟩,
  ⟨some 4, none, false, .mv (.t 63)⟩]

def a_law09_TremorLocates : Ann := ⟨[(10, [4]), (9, [4]), (8, [5, 6, 8, 43]), (7, [5, 6, 8]), (6, [4]), (5, [1, 2, 5, 6, 7, 26]), (4, [1, 2, 5, 6, 7]), (3, [1, 2, 5, 6]), (2, [4]), (1, [1, 2, 12]), (0, [1, 2])], [], [], [], [], [], [], []⟩
def f_law09_TremorLocates : Abs.Fn := ⟨2, [.t 4],
  (.seq (.reg [1, 2] f_law09_TremorLocates_r0) (.seq (.seq (.reg [1, 2, 12] f_law09_TremorLocates_r1) (.ite (.t 12) (.seq (.reg [4] f_law09_TremorLocates_r2) .ret) .nop)) (.seq (.reg [1, 2, 5, 6] f_law09_TremorLocates_r3) (.seq (.reg [1, 2, 5, 6, 7] f_law09_TremorLocates_r4) (.seq (.seq (.reg [1, 2, 5, 6, 7, 26] f_law09_TremorLocates_r5) (.ite (.t 26) (.seq (.reg [4] f_law09_TremorLocates_r6) .ret) .nop)) (.seq (.reg [5, 6, 8] f_law09_TremorLocates_r7) (.seq (.seq (.reg [5, 6, 8, 43] f_law09_TremorLocates_r8) (.ite (.t 43) (.seq (.reg [4] f_law09_TremorLocates_r9) .ret) .nop)) (.seq (.reg [4] f_law09_TremorLocates_r10) .ret))))))))⟩

theorem e_law09_TremorLocates_r0 : type_of% f_law09_TremorLocates_r0.eq_1 := by_rfl f_law09_TremorLocates_r0.eq_1
theorem e_law09_TremorLocates_r1 : type_of% f_law09_TremorLocates_r1.eq_1 := by_rfl f_law09_TremorLocates_r1.eq_1
theorem e_law09_TremorLocates_r2 : type_of% f_law09_TremorLocates_r2.eq_1 := by_rfl f_law09_TremorLocates_r2.eq_1
theorem e_law09_TremorLocates_r3 : type_of% f_law09_TremorLocates_r3.eq_1 := by_rfl f_law09_TremorLocates_r3.eq_1
theorem e_law09_TremorLocates_r4 : type_of% f_law09_TremorLocates_r4.eq_1 := by_rfl f_law09_TremorLocates_r4.eq_1
theorem e_law09_TremorLocates_r5 : type_of% f_law09_TremorLocates_r5.eq_1 := by_rfl f_law09_TremorLocates_r5.eq_1
theorem e_law09_TremorLocates_r6 : type_of% f_law09_TremorLocates_r6.eq_1 := by_rfl f_law09_TremorLocates_r6.eq_1
theorem e_law09_TremorLocates_r7 : type_of% f_law09_TremorLocates_r7.eq_1 := by_rfl f_law09_TremorLocates_r7.eq_1
theorem e_law09_TremorLocates_r8 : type_of% f_law09_TremorLocates_r8.eq_1 := by_rfl f_law09_TremorLocates_r8.eq_1
theorem e_law09_TremorLocates_r9 : type_of% f_law09_TremorLocates_r9.eq_1 := by_rfl f_law09_TremorLocates_r9.eq_1
theorem e_law09_TremorLocates_r10 : type_of% f_law09_TremorLocates_r10.eq_1 := by_rfl f_law09_TremorLocates_r10.eq_1
theorem e_law09_TremorLocates : type_of% f_law09_TremorLocates.eq_1 := by_rfl f_law09_TremorLocates.eq_1
theorem ok_law09_TremorLocates : fnC Try.prog a_law09_TremorLocates Try.f3 = some f_law09_TremorLocates := by kernel_rfl

/-! 4 fumarole/fumarolelaw09.TremorSizes -/
def f_law09_TremorSizes_r0 : List Abs.Op := [
  ⟨some 4, none, false, .boxi (.t 0)⟩,
  ⟨some 5, none, false, .boxi (.t 1)⟩,
  ⟨some 6, none, false, .boxi (.t 2)⟩,
  ⟨some 8, none, false, .mv (.c (.bool false))⟩]

def f_law09_TremorSizes_r1 : List Abs.Op := [
  ⟨some 11, none, false, .ld true 12 (.t 4)⟩,
  ⟨some 12, none, false, .call false (.c (.fn i_law09_few [] [])) [(.t 11), (.c .nils)]⟩,
  ⟨some 13, none, false, .un .not (.t 12)⟩,
  ⟨some 14, none, false, .mv (.t 13)⟩,
  ⟨some 15, some (14, false), false, .mv (.t 3)⟩,
  ⟨some 16, some (14, false), false, .lenS (.t 15)⟩,
  ⟨some 17, some (14, false), false, .bin .gtr (.t 16) (.c (.int .i64 14))⟩,
  ⟨some 18, none, false, .pick (.t 14) (.c (.bool true)) (.t 17)⟩,
  ⟨some 19, none, false, .mv (.t 18)⟩,
  ⟨some 20, some (19, false), false, .fadr 0 (.t 5)⟩,
  ⟨some 21, some (19, false), false, .ld false 1 (.t 20)⟩,
  ⟨some 22, some (19, false), false, .lenS (.t 21)⟩,
  ⟨some 23, some (19, false), false, .bin .gtr (.t 22) (.c (.int .i64 70))⟩,
  ⟨some 24, none, false, .pick (.t 19) (.c (.bool true)) (.t 23)⟩,
  ⟨some 25, none, false, .mv (.t 24)⟩,
  ⟨some 26, some (25, false), false, .fadr 1 (.t 5)⟩,
  ⟨some 27, some (25, false), false, .ld false 1 (.t 26)⟩,
  ⟨some 28, some (25, false), false, .lenS (.t 27)⟩,
  ⟨some 29, some (25, false), false, .bin .gtr (.t 28) (.c (.int .i64 25))⟩,
  ⟨some 30, none, false, .pick (.t 25) (.c (.bool true)) (.t 29)⟩]

def f_law09_TremorSizes_r2 : List Abs.Op := [
  ⟨some 31, none, false, .call false (.c (.fn i_law09_awake [] [])) []⟩,
  ⟨some 8, none, false, .mv (.t 31)⟩]

def f_law09_TremorSizes_r3 : List Abs.Op := [
  ⟨some 33, none, true, .ld true 12 (.t 4)⟩,
  ⟨some 34, none, true, .call false (.c (.fn i_law09_Net [] [])) [(.t 33)]⟩,
  ⟨some 35, none, true, .ld true 2 (.t 5)⟩,
  ⟨some 36, none, true, .call false (.c (.fn i_law09_Scale [] [])) [(.t 35)]⟩,
  ⟨some 37, none, true, .ld true 3 (.t 6)⟩,
  ⟨some 38, none, true, .call false (.c (.fn i_law09_Point [] [])) [(.t 37)]⟩,
  ⟨some 39, none, true, .mv (.t 3)⟩,
  ⟨some 40, none, true, .call false (.c (.fn i_law09_Readings [] [])) [(.t 39)]⟩,
  ⟨some 41, none, true, .call false (.c (.fn i_tremor_Magnitude [] [])) [(.t 34), (.t 36), (.t 38), (.t 40)]⟩,
  ⟨some 32, none, true, .mv (.t 41)⟩,
  ⟨some 42, none, true, .ext (.t 32) 0⟩,
  ⟨some 43, none, true, .ext (.t 32) 1⟩,
  ⟨some 9, none, true, .mv (.t 42)⟩,
  ⟨some 10, none, false, .mv (.t 43)⟩]

def f_law09_TremorSizes_r4 : List Abs.Op := [
  ⟨some 44, none, false, .ld true 12 (.t 4)⟩,
  ⟨some 45, none, false, .call false (.c (.fn i_ref09_Right [] [])) [(.t 44)]⟩,
  ⟨some 46, none, false, .un .not (.t 45)⟩,
  ⟨some 47, none, false, .mv (.t 46)⟩,
  ⟨some 48, some (47, false), false, .ld true 2 (.t 5)⟩,
  ⟨some 49, some (47, false), false, .call false (.c (.fn i_ref09_RightScale [] [])) [(.t 48)]⟩,
  ⟨some 50, some (47, false), false, .un .not (.t 49)⟩,
  ⟨some 51, none, false, .pick (.t 47) (.c (.bool true)) (.t 50)⟩,
  ⟨some 52, none, false, .mv (.t 51)⟩,
  ⟨some 53, some (52, false), false, .ld true 3 (.t 6)⟩,
  ⟨some 54, some (52, false), false, .call false (.c (.fn i_ref09_Dot [] [])) [(.t 53)]⟩,
  ⟨some 55, some (52, false), false, .un .not (.t 54)⟩,
  ⟨some 56, none, false, .pick (.t 52) (.c (.bool true)) (.t 55)⟩,
  ⟨some 57, none, false, .mv (.t 56)⟩,
  ⟨some 58, some (57, false), false, .ld true 12 (.t 4)⟩,
  ⟨some 59, some (57, false), false, .mv (.t 3)⟩,
  ⟨some 60, some (57, false), false, .call false (.c (.fn i_ref09_Readings [] [])) [(.t 58), (.t 59)]⟩,
  ⟨some 61, some (57, false), false, .un .not (.t 60)⟩,
  ⟨some 62, none, false, .pick (.t 57) (.c (.bool true)) (.t 61)⟩]

def f_law09_TremorSizes_r5 : List Abs.Op := [
  ⟨some 63, none, false, .mv (.t 10)⟩,
  ⟨some 64, none, false, .bin .eql (.t 63) (.c (.int .i64 1))⟩,
  ⟨some 65, none, false, .mv (.t 64)⟩,
  ⟨some 66, some (65, true), false, .mv (.t 9)⟩,
  ⟨some 67, some (65, true), false, .bin .eql (.t 66) (.c (.int .i64 0))⟩,
  ⟨some 68, none, false, .pick (.t 65) (.t 67) (.c (.bool false))⟩,
  ⟨some 69, none, false, .mv (.t 68)⟩,
  ⟨some 70, some (69, true), false, .call false (.c (.fn i_law09_awake [] [])) []⟩,
  ⟨some 71, none, false, .pick (.t 69) (.t 70) (.c (.bool false))⟩,
  ⟨some 8, none, false, .mv (.t 71)⟩]

def f_law09_TremorSizes_r6 : List Abs.Op := [
  ⟨some 72, none, false, .mv (.t 10)⟩,
  ⟨some 73, none, false, .bin .eql (.t 72) (.c (.int .i64 0))⟩,
  ⟨some 74, none, false, .mv (.t 73)⟩,
  ⟨some 75, some (74, true), false, .mv (.t 9)⟩,
  ⟨some 76, some (74, true), false, .ld true 12 (.t 4)⟩,
  ⟨some 77, some (74, true), false, .ld true 2 (.t 5)⟩,
  ⟨some 78, some (74, true), false, .ld true 3 (.t 6)⟩,
  ⟨some 79, some (74, true), false, .mv (.t 3)⟩,
  ⟨some 80, some (74, true), false, .call false (.c (.fn i_ref09_Magnitude [] [])) [(.t 76), (.t 77), (.t 78), (.t 79)]⟩,
  ⟨some 81, some (74, true), false, .bin .eql (.t 75) (.t 80)⟩,
  ⟨some 82, none, false, .pick (.t 74) (.t 81) (.c (.bool false))⟩,
  ⟨some 83, none, false, .mv (.t 82)⟩,
  ⟨some 84, some (83, true), false, .call false (.c (.fn i_law09_awake [] [])) []⟩,
  ⟨some 85, none, false, .pick (.t 83) (.t 84) (.c (.bool false))⟩,
  ⟨some 8, none, false, .mv (.t 85)⟩]

def a_law09_TremorSizes : Ann := ⟨[(6, [8]), (5, [8]), (4, [3, 4, 5, 6, 9, 10, 62]), (3, [3, 4, 5, 6, 9, 10]), (2, [8]), (1, [3, 4, 5, 6, 30]), (0, [3, 4, 5, 6])], [], [], [], [], [], [], []⟩
def f_law09_TremorSizes : Abs.Fn := ⟨4, [.t 8],
  (.seq (.reg [3, 4, 5, 6] f_law09_TremorSizes_r0) (.seq (.seq (.reg [3, 4, 5, 6, 30] f_law09_TremorSizes_r1) (.ite (.t 30) (.seq (.reg [8] f_law09_TremorSizes_r2) .ret) .nop)) (.seq (.reg [3, 4, 5, 6, 9, 10] f_law09_TremorSizes_r3) (.seq (.seq (.reg [3, 4, 5, 6, 9, 10, 62] f_law09_TremorSizes_r4) (.ite (.t 62) (.seq (.reg [8] f_law09_TremorSizes_r5) .ret) .nop)) (.seq (.reg [8] f_law09_TremorSizes_r6) .ret)))))⟩

theorem e_law09_TremorSizes_r0 : type_of% f_law09_TremorSizes_r0.eq_1 := by_rfl f_law09_TremorSizes_r0.eq_1
theorem e_law09_TremorSizes_r1 : type_of% f_law09_TremorSizes_r1.eq_1 := by_rfl f_law09_TremorSizes_r1.eq_1
theorem e_law09_TremorSizes_r2 : type_of% f_law09_TremorSizes_r2.eq_1 := by_rfl f_law09_TremorSizes_r2.eq_1
theorem e_law09_TremorSizes_r3 : type_of% f_law09_TremorSizes_r3.eq_1 := by_rfl f_law09_TremorSizes_r3.eq_1
theorem e_law09_TremorSizes_r4 : type_of% f_law09_TremorSizes_r4.eq_1 := by_rfl f_law09_TremorSizes_r4.eq_1
theorem e_law09_TremorSizes_r5 : type_of% f_law09_TremorSizes_r5.eq_1 := by_rfl f_law09_TremorSizes_r5.eq_1
theorem e_law09_TremorSizes_r6 : type_of% f_law09_TremorSizes_r6.eq_1 := by_rfl f_law09_TremorSizes_r6.eq_1
theorem e_law09_TremorSizes : type_of% f_law09_TremorSizes.eq_1 := by_rfl f_law09_TremorSizes.eq_1
theorem ok_law09_TremorSizes : fnC Try.prog a_law09_TremorSizes Try.f4 = some f_law09_TremorSizes := by kernel_rfl

/-! 5 fumarole/fumarolelaw09.TremorInjects -/
def f_law09_TremorInjects_r0 : List Abs.Op := [
  ⟨some 6, none, false, .boxi (.t 2)⟩,
  ⟨some 8, none, false, .mv (.c (.bool false))⟩]

def f_law09_TremorInjects_r1 : List Abs.Op := [
  ⟨some 12, none, false, .mv (.t 0)⟩,
  ⟨some 13, none, false, .lenS (.t 12)⟩,
  ⟨some 14, none, false, .bin .gtr (.t 13) (.c (.int .i64 60))⟩,
  ⟨some 15, none, false, .mv (.t 14)⟩,
  ⟨some 16, some (15, true), false, .mv (.t 0)⟩,
  ⟨some 17, some (15, true), false, .lenS (.t 16)⟩,
  ⟨some 18, some (15, true), false, .bin .leq (.t 17) (.c (.int .i64 500))⟩,
  ⟨some 19, none, false, .pick (.t 15) (.t 18) (.c (.bool false))⟩,
  ⟨some 20, none, false, .mv (.t 19)⟩,
  ⟨some 21, some (20, false), false, .mv (.t 0)⟩,
  ⟨some 22, some (20, false), false, .lenS (.t 21)⟩,
  ⟨some 23, some (20, false), false, .bin .gtr (.t 22) (.c (.int .i64 502))⟩,
  ⟨some 24, none, false, .pick (.t 20) (.c (.bool true)) (.t 23)⟩,
  ⟨some 25, none, false, .mv (.t 24)⟩,
  ⟨some 26, some (25, false), false, .mv (.t 1)⟩,
  ⟨some 27, some (25, false), false, .lenS (.t 26)⟩,
  ⟨some 28, some (25, false), false, .bin .gtr (.t 27) (.c (.int .i64 502))⟩,
  ⟨some 29, none, false, .pick (.t 25) (.c (.bool true)) (.t 28)⟩]

def f_law09_TremorInjects_r2 : List Abs.Op := [
  ⟨some 30, none, false, .call false (.c (.fn i_law09_awake [] [])) []⟩,
  ⟨some 8, none, false, .mv (.t 30)⟩]

def f_law09_TremorInjects_r3 : List Abs.Op := [
  ⟨some 32, none, true, .mv (.t 0)⟩,
  ⟨some 33, none, true, .cpi 1 8 (.t 32)⟩,
  ⟨some 34, none, true, .mv (.t 1)⟩,
  ⟨some 35, none, true, .cpi 1 1 (.t 34)⟩,
  ⟨some 36, none, true, .ld true 3 (.t 6)⟩,
  ⟨some 37, none, true, .mv (.t 3)⟩,
  ⟨some 38, none, true, .call false (.c (.fn i_tremor_Inject [] [])) [(.t 33), (.t 35), (.t 36), (.t 37)]⟩,
  ⟨some 31, none, true, .mv (.t 38)⟩,
  ⟨some 39, none, true, .ext (.t 31) 0⟩,
  ⟨some 40, none, true, .ext (.t 31) 1⟩,
  ⟨some 9, none, true, .mv (.t 39)⟩,
  ⟨some 10, none, false, .mv (.t 40)⟩]

def f_law09_TremorInjects_r4 : List Abs.Op := [
  ⟨some 11, none, false, .mv (.c (.int .i64 0))⟩]

def f_law09_TremorInjects_r5 : List Abs.Op := [
  ⟨some 41, none, false, .mv (.t 0)⟩,
  ⟨some 42, none, false, .lenS (.t 41)⟩,
  ⟨some 43, none, false, .bin .gtr (.t 42) (.c (.int .i64 500))⟩]

def f_law09_TremorInjects_r6 : List Abs.Op := [
  ⟨some 11, none, false, .mv (.c (.int .i64 3))⟩]

def f_law09_TremorInjects_r7 : List Abs.Op := [
  ⟨some 44, none, false, .mv (.t 0)⟩,
  ⟨some 45, none, false, .mv (.t 1)⟩,
  ⟨some 46, none, false, .ld true 3 (.t 6)⟩,
  ⟨some 47, none, false, .mv (.t 3)⟩,
  ⟨some 48, none, false, .call false (.c (.fn i_ref09_RightPlan [] [])) [(.t 44), (.t 45), (.t 46), (.t 47)]⟩,
  ⟨some 49, none, false, .un .not (.t 48)⟩]

def f_law09_TremorInjects_r8 : List Abs.Op := [
  ⟨some 11, none, false, .mv (.c (.int .i64 1))⟩]

def f_law09_TremorInjects_r9 : List Abs.Op := [
  ⟨some 50, none, false, .mv (.t 11)⟩,
  ⟨some 51, none, false, .bin .neq (.t 50) (.c (.int .i64 0))⟩]

def f_law09_TremorInjects_r10 : List Abs.Op := [
  ⟨some 52, none, false, .mv (.t 10)⟩,
  ⟨some 53, none, false, .mv (.t 11)⟩,
  ⟨some 54, none, false, .bin .eql (.t 52) (.t 53)⟩,
  ⟨some 55, none, false, .mv (.t 54)⟩,
  ⟨some 56, some (55, true), false, .mv (.t 9)⟩,
  ⟨some 57, some (55, true), false, .lenS (.t 56)⟩,
  ⟨some 58, some (55, true), false, .bin .eql (.t 57) (.c (.int .i64 0))⟩,
  ⟨some 59, none, false, .pick (.t 55) (.t 58) (.c (.bool false))⟩,
  ⟨some 60, none, false, .mv (.t 59)⟩,
  ⟨some 61, some (60, true), false, .call false (.c (.fn i_law09_awake [] [])) []⟩,
  ⟨some 62, none, false, .pick (.t 60) (.t 61) (.c (.bool false))⟩,
  ⟨some 8, none, false, .mv (.t 62)⟩]

def f_law09_TremorInjects_r11 : List Abs.Op := [
  ⟨some 63, none, false, .mv (.t 10)⟩,
  ⟨some 64, none, false, .bin .eql (.t 63) (.c (.int .i64 0))⟩,
  ⟨some 65, none, false, .mv (.t 64)⟩,
  ⟨some 66, some (65, true), false, .mv (.t 9)⟩,
  ⟨some 67, some (65, true), false, .mv (.t 0)⟩,
  ⟨some 68, some (65, true), false, .mv (.t 1)⟩,
  ⟨some 69, some (65, true), false, .ld true 3 (.t 6)⟩,
  ⟨some 70, some (65, true), false, .mv (.t 3)⟩,
  ⟨some 71, some (65, true), false, .call false (.c (.fn i_ref09_Inject [] [])) [(.t 67), (.t 68), (.t 69), (.t 70)]⟩,
  ⟨some 72, some (65, true), false, .call false (.c (.fn i_law09_ints [] [])) [(.t 66), (.t 71)]⟩,
  ⟨some 73, none, false, .pick (.t 65) (.t 72) (.c (.bool false))⟩,
  ⟨some 74, none, false, .mv (.t 73)⟩,
  ⟨some 75, some (74, true), false, .call false (.c (.fn i_law09_awake [] [])) []⟩,
  ⟨some 76, none, false, .pick (.t 74) (.t 75) (.c (.bool false))⟩,
  ⟨some 8, none, false, .mv (.t 76)⟩]

def a_law09_TremorInjects : Ann := ⟨[(11, [8]), (10, [8]), (9, [0, 1, 3, 6, 9, 10, 11, 51]), (6, [0, 1, 3, 6, 9, 10, 11]), (8, [0, 1, 3, 6, 9, 10, 11]), (7, [0, 1, 3, 6, 9, 10, 11, 49]), (5, [0, 1, 3, 6, 9, 10, 11, 43]), (4, [0, 1, 3, 6, 9, 10, 11]), (3, [0, 1, 3, 6, 9, 10]), (2, [8]), (1, [0, 1, 3, 6, 29]), (0, [0, 1, 3, 6])], [], [], [], [], [], [], []⟩
def f_law09_TremorInjects : Abs.Fn := ⟨4, [.t 8],
  (.seq (.reg [0, 1, 3, 6] f_law09_TremorInjects_r0) (.seq (.seq (.reg [0, 1, 3, 6, 29] f_law09_TremorInjects_r1) (.ite (.t 29) (.seq (.reg [8] f_law09_TremorInjects_r2) .ret) .nop)) (.seq (.reg [0, 1, 3, 6, 9, 10] f_law09_TremorInjects_r3) (.seq (.reg [0, 1, 3, 6, 9, 10, 11] f_law09_TremorInjects_r4) (.seq (.seq (.reg [0, 1, 3, 6, 9, 10, 11, 43] f_law09_TremorInjects_r5) (.ite (.t 43) (.reg [0, 1, 3, 6, 9, 10, 11] f_law09_TremorInjects_r6) (.seq (.reg [0, 1, 3, 6, 9, 10, 11, 49] f_law09_TremorInjects_r7) (.ite (.t 49) (.reg [0, 1, 3, 6, 9, 10, 11] f_law09_TremorInjects_r8) .nop)))) (.seq (.seq (.reg [0, 1, 3, 6, 9, 10, 11, 51] f_law09_TremorInjects_r9) (.ite (.t 51) (.seq (.reg [8] f_law09_TremorInjects_r10) .ret) .nop)) (.seq (.reg [8] f_law09_TremorInjects_r11) .ret)))))))⟩

theorem e_law09_TremorInjects_r0 : type_of% f_law09_TremorInjects_r0.eq_1 := by_rfl f_law09_TremorInjects_r0.eq_1
theorem e_law09_TremorInjects_r1 : type_of% f_law09_TremorInjects_r1.eq_1 := by_rfl f_law09_TremorInjects_r1.eq_1
theorem e_law09_TremorInjects_r2 : type_of% f_law09_TremorInjects_r2.eq_1 := by_rfl f_law09_TremorInjects_r2.eq_1
theorem e_law09_TremorInjects_r3 : type_of% f_law09_TremorInjects_r3.eq_1 := by_rfl f_law09_TremorInjects_r3.eq_1
theorem e_law09_TremorInjects_r4 : type_of% f_law09_TremorInjects_r4.eq_1 := by_rfl f_law09_TremorInjects_r4.eq_1
theorem e_law09_TremorInjects_r5 : type_of% f_law09_TremorInjects_r5.eq_1 := by_rfl f_law09_TremorInjects_r5.eq_1
theorem e_law09_TremorInjects_r6 : type_of% f_law09_TremorInjects_r6.eq_1 := by_rfl f_law09_TremorInjects_r6.eq_1
theorem e_law09_TremorInjects_r7 : type_of% f_law09_TremorInjects_r7.eq_1 := by_rfl f_law09_TremorInjects_r7.eq_1
theorem e_law09_TremorInjects_r8 : type_of% f_law09_TremorInjects_r8.eq_1 := by_rfl f_law09_TremorInjects_r8.eq_1
theorem e_law09_TremorInjects_r9 : type_of% f_law09_TremorInjects_r9.eq_1 := by_rfl f_law09_TremorInjects_r9.eq_1
theorem e_law09_TremorInjects_r10 : type_of% f_law09_TremorInjects_r10.eq_1 := by_rfl f_law09_TremorInjects_r10.eq_1
theorem e_law09_TremorInjects_r11 : type_of% f_law09_TremorInjects_r11.eq_1 := by_rfl f_law09_TremorInjects_r11.eq_1
theorem e_law09_TremorInjects : type_of% f_law09_TremorInjects.eq_1 := by_rfl f_law09_TremorInjects.eq_1
theorem ok_law09_TremorInjects : fnC Try.prog a_law09_TremorInjects Try.f5 = some f_law09_TremorInjects := by kernel_rfl

/-! 6 fumarole/fumarolelaw09.TremorKeeps -/
def f_law09_TremorKeeps_r0 : List Abs.Op := [
  ⟨some 5, none, false, .boxi (.t 0)⟩,
  ⟨some 10, none, false, .mv (.c (.bool false))⟩]

def f_law09_TremorKeeps_r1 : List Abs.Op := [
  ⟨some 29, none, false, .ld true 12 (.t 5)⟩,
  ⟨some 30, none, false, .call false (.c (.fn i_ref09_Right [] [])) [(.t 29)]⟩,
  ⟨some 31, none, false, .un .not (.t 30)⟩,
  ⟨some 32, none, false, .mv (.t 31)⟩,
  ⟨some 33, some (32, false), false, .mv (.t 2)⟩,
  ⟨some 34, some (32, false), false, .call false (.c (.fn i_ref09_In [] [])) [(.t 33), (.c (.int .i64 (-1000000))), (.c (.int .i64 1000000))]⟩,
  ⟨some 35, some (32, false), false, .un .not (.t 34)⟩,
  ⟨some 36, none, false, .pick (.t 32) (.c (.bool true)) (.t 35)⟩]

def f_law09_TremorKeeps_r2 : List Abs.Op := [
  ⟨some 37, none, false, .call false (.c (.fn i_law09_awake [] [])) []⟩,
  ⟨some 10, none, false, .mv (.t 37)⟩]

def f_law09_TremorKeeps_r3 : List Abs.Op := [
  ⟨some 38, none, false, .ld true 12 (.t 5)⟩,
  ⟨some 39, none, false, .call false (.c (.fn i_ref09_Lattice [] [])) [(.t 38)]⟩,
  ⟨some 11, none, false, .mv (.t 39)⟩]

def f_law09_TremorKeeps_r4 : List Abs.Op := [
  ⟨some 40, none, false, .mv (.t 11)⟩,
  ⟨some 41, none, false, .mv (.t 1)⟩,
  ⟨some 42, none, false, .cvt .i64 (.t 41)⟩,
  ⟨some 43, none, false, .mv (.t 11)⟩,
  ⟨some 44, none, false, .lenS (.t 43)⟩,
  ⟨some 45, none, false, .bin .rem (.t 42) (.t 44)⟩,
  ⟨some 46, none, false, .idxS 3 (.t 40) (.t 45)⟩,
  ⟨some 47, none, false, .ld true 3 (.t 46)⟩,
  ⟨some 12, none, false, .alcv [] [(.int .i64 0), (.int .i64 0), (.int .i64 0)]⟩,
  ⟨none, none, false, .stv 12 [] 3 12 (.t 47)⟩]

def f_law09_TremorKeeps_r5 : List Abs.Op := [
  ⟨some 13, none, false, .nilb 4⟩]

def f_law09_TremorKeeps_r6 : List Abs.Op := [
  ⟨some 14, none, false, .mv (.c (.int .i64 0))⟩]

def f_law09_TremorKeeps_r7 : List Abs.Op := [
  ⟨some 48, none, false, .mv (.t 14)⟩,
  ⟨some 49, none, false, .mv (.t 3)⟩,
  ⟨some 50, none, false, .cvt .i64 (.t 49)⟩,
  ⟨some 51, none, false, .bin .rem (.t 50) (.c (.int .i64 8))⟩,
  ⟨some 52, none, false, .bin .add (.c (.int .i64 1)) (.t 51)⟩,
  ⟨some 53, none, false, .bin .lss (.t 48) (.t 52)⟩]

def f_law09_TremorKeeps_r8 : List Abs.Op := [
  ⟨some 56, none, true, .mv (.t 4)⟩,
  ⟨some 57, none, true, .mv (.t 14)⟩,
  ⟨some 58, none, true, .bin .mul (.c (.int .i64 5)) (.t 57)⟩,
  ⟨some 59, none, true, .call false (.c (.fn i_law09_word [] [])) [(.t 56), (.t 58)]⟩,
  ⟨some 60, none, true, .fadr 0 (.t 5)⟩,
  ⟨some 61, none, true, .ld false 1 (.t 60)⟩,
  ⟨some 62, none, true, .lenS (.t 61)⟩,
  ⟨some 63, none, true, .bin .rem (.t 59) (.t 62)⟩,
  ⟨some 64, none, true, .mv (.t 4)⟩,
  ⟨some 65, none, true, .mv (.t 14)⟩,
  ⟨some 66, none, true, .bin .mul (.c (.int .i64 5)) (.t 65)⟩,
  ⟨some 67, none, true, .bin .add (.t 66) (.c (.int .i64 1))⟩,
  ⟨some 68, none, true, .call false (.c (.fn i_law09_word [] [])) [(.t 64), (.t 67)]⟩,
  ⟨some 69, none, true, .bin .rem (.t 68) (.c (.int .i64 2))⟩,
  ⟨some 15, none, true, .mv (.t 63)⟩,
  ⟨some 16, none, false, .mv (.t 69)⟩]

def f_law09_TremorKeeps_r9 : List Abs.Op := [
  ⟨some 70, none, true, .mv (.t 16)⟩,
  ⟨some 71, none, true, .fadr 1 (.t 5)⟩,
  ⟨some 72, none, true, .idxA 2 2 (.t 71) (.t 70)⟩,
  ⟨some 73, none, true, .fadr 0 (.t 72)⟩,
  ⟨some 74, none, true, .ld false 1 (.t 73)⟩,
  ⟨some 75, none, true, .mv (.t 4)⟩,
  ⟨some 76, none, true, .mv (.t 14)⟩,
  ⟨some 77, none, true, .bin .mul (.c (.int .i64 5)) (.t 76)⟩,
  ⟨some 78, none, true, .bin .add (.t 77) (.c (.int .i64 2))⟩,
  ⟨some 79, none, true, .call false (.c (.fn i_law09_word [] [])) [(.t 75), (.t 78)]⟩,
  ⟨some 80, none, true, .mv (.t 16)⟩,
  ⟨some 81, none, true, .fadr 1 (.t 5)⟩,
  ⟨some 82, none, true, .idxA 2 2 (.t 81) (.t 80)⟩,
  ⟨some 83, none, true, .fadr 1 (.t 82)⟩,
  ⟨some 84, none, true, .ld false 1 (.t 83)⟩,
  ⟨some 85, none, true, .mv (.t 16)⟩,
  ⟨some 86, none, true, .fadr 1 (.t 5)⟩,
  ⟨some 87, none, true, .idxA 2 2 (.t 86) (.t 85)⟩,
  ⟨some 88, none, true, .fadr 0 (.t 87)⟩,
  ⟨some 89, none, true, .ld false 1 (.t 88)⟩,
  ⟨some 90, none, true, .bin .sub (.t 84) (.t 89)⟩,
  ⟨some 91, none, true, .bin .add (.t 90) (.c (.int .i64 1))⟩,
  ⟨some 92, none, true, .bin .rem (.t 79) (.t 91)⟩,
  ⟨some 93, none, false, .bin .add (.t 74) (.t 92)⟩,
  ⟨some 17, none, false, .mv (.t 93)⟩]

def f_law09_TremorKeeps_r10 : List Abs.Op := [
  ⟨some 94, none, true, .fadr 0 (.t 5)⟩,
  ⟨some 95, none, true, .ld false 1 (.t 94)⟩,
  ⟨some 96, none, true, .mv (.t 15)⟩,
  ⟨some 97, none, true, .idxS 4 (.t 95) (.t 96)⟩,
  ⟨some 98, none, true, .fadr 0 (.t 97)⟩,
  ⟨some 99, none, true, .ld true 3 (.t 98)⟩,
  ⟨some 100, none, true, .ldv 12 true 3 12⟩,
  ⟨some 101, none, true, .call false (.c (.fn i_ref09_Far [] [])) [(.t 99), (.t 100)]⟩,
  ⟨some 102, none, true, .bin .mul (.c (.int .i64 64)) (.t 101)⟩,
  ⟨some 103, none, true, .mv (.t 4)⟩,
  ⟨some 104, none, true, .mv (.t 14)⟩,
  ⟨some 105, none, true, .bin .mul (.c (.int .i64 5)) (.t 104)⟩,
  ⟨some 106, none, true, .bin .add (.t 105) (.c (.int .i64 3))⟩,
  ⟨some 107, none, true, .call false (.c (.fn i_law09_word [] [])) [(.t 103), (.t 106)]⟩,
  ⟨some 108, none, true, .bin .rem (.t 107) (.c (.int .i64 65))⟩,
  ⟨some 109, none, false, .bin .add (.t 102) (.t 108)⟩,
  ⟨some 18, none, false, .mv (.t 109)⟩]

def f_law09_TremorKeeps_r11 : List Abs.Op := [
  ⟨some 110, none, true, .mv (.t 4)⟩,
  ⟨some 111, none, true, .mv (.t 14)⟩,
  ⟨some 112, none, true, .bin .mul (.c (.int .i64 5)) (.t 111)⟩,
  ⟨some 113, none, true, .bin .add (.t 112) (.c (.int .i64 4))⟩,
  ⟨some 114, none, true, .call false (.c (.fn i_law09_word [] [])) [(.t 110), (.t 113)]⟩,
  ⟨some 115, none, true, .fadr 0 (.t 5)⟩,
  ⟨some 116, none, true, .ld false 1 (.t 115)⟩,
  ⟨some 117, none, true, .mv (.t 15)⟩,
  ⟨some 118, none, true, .idxS 4 (.t 116) (.t 117)⟩,
  ⟨some 119, none, true, .fadr 3 (.t 118)⟩,
  ⟨some 120, none, true, .ld false 1 (.t 119)⟩,
  ⟨some 121, none, true, .bin .mul (.c (.int .i64 2)) (.t 120)⟩,
  ⟨some 122, none, true, .bin .add (.t 121) (.c (.int .i64 1))⟩,
  ⟨some 123, none, true, .bin .rem (.t 114) (.t 122)⟩,
  ⟨some 124, none, true, .fadr 0 (.t 5)⟩,
  ⟨some 125, none, true, .ld false 1 (.t 124)⟩,
  ⟨some 126, none, true, .mv (.t 15)⟩,
  ⟨some 127, none, true, .idxS 4 (.t 125) (.t 126)⟩,
  ⟨some 128, none, true, .fadr 3 (.t 127)⟩,
  ⟨some 129, none, true, .ld false 1 (.t 128)⟩,
  ⟨some 130, none, false, .bin .sub (.t 123) (.t 129)⟩,
  ⟨some 19, none, false, .mv (.t 130)⟩]

def f_law09_TremorKeeps_r12 : List Abs.Op := [
  ⟨some 131, none, false, .mv (.t 17)⟩,
  ⟨some 132, none, false, .mv (.t 18)⟩,
  ⟨some 133, none, false, .bin .mul (.t 131) (.t 132)⟩,
  ⟨some 134, none, false, .bin .quo (.t 133) (.c (.int .i64 64000))⟩,
  ⟨some 20, none, false, .mv (.t 134)⟩]

def f_law09_TremorKeeps_r13 : List Abs.Op := [
  ⟨some 135, none, false, .mv (.t 13)⟩,
  ⟨some 136, none, false, .mv (.t 15)⟩,
  ⟨some 137, none, false, .mv (.t 16)⟩,
  ⟨some 138, none, false, .cvt .u8 (.t 137)⟩,
  ⟨some 139, none, false, .mv (.t 2)⟩,
  ⟨some 140, none, false, .mv (.t 19)⟩,
  ⟨some 141, none, false, .bin .add (.t 139) (.t 140)⟩,
  ⟨some 142, none, false, .mv (.t 20)⟩,
  ⟨some 143, none, false, .bin .add (.t 141) (.t 142)⟩,
  ⟨some 144, none, false, .mv (.t 2)⟩,
  ⟨some 145, none, false, .mv (.t 19)⟩,
  ⟨some 146, none, false, .bin .add (.t 144) (.t 145)⟩,
  ⟨some 147, none, false, .mv (.t 17)⟩,
  ⟨some 148, none, false, .mv (.t 18)⟩,
  ⟨some 149, none, false, .bin .mul (.t 147) (.t 148)⟩,
  ⟨some 150, none, false, .bin .add (.t 149) (.c (.int .i64 63999))⟩,
  ⟨some 151, none, false, .bin .quo (.t 150) (.c (.int .i64 64000))⟩,
  ⟨some 152, none, false, .bin .add (.t 146) (.t 151)⟩,
  ⟨some 153, none, false, .bld [(.int .i64 0), (.int .i64 0)] [(0, 1, (.t 143)), (1, 1, (.t 152))]⟩,
  ⟨some 154, none, false, .bld [(.int .i64 0), (.int .u8 0), (.int .i64 0), (.int .i64 0)] [(0, 1, (.t 136)), (1, 1, (.t 138)), (2, 2, (.t 153))]⟩,
  ⟨some 155, none, false, .bsi 1 4 [(.int .i64 0), (.int .u8 0), (.int .i64 0), (.int .i64 0)] [(0, 4, (.t 154))]⟩,
  ⟨some 156, none, false, .app 4 32 (.t 135) (.t 155)⟩,
  ⟨some 13, none, false, .mv (.t 156)⟩]

def f_law09_TremorKeeps_r14 : List Abs.Op := [
  ⟨some 54, none, false, .mv (.t 14)⟩,
  ⟨some 55, none, false, .bin .add (.t 54) (.c (.int .i64 1))⟩,
  ⟨some 14, none, false, .mv (.t 55)⟩]

def f_law09_TremorKeeps_l15 : Abs.Cmd :=
  (.seq (.seq (.reg [2, 3, 4, 5, 12, 13, 14, 53] f_law09_TremorKeeps_r7) (.ite (.t 53) .nop (.exit 0))) (.seq (.blk 1 (.seq (.reg [2, 3, 4, 5, 12, 13, 14, 15, 16] f_law09_TremorKeeps_r8) (.seq (.reg [2, 3, 4, 5, 12, 13, 14, 15, 16, 17] f_law09_TremorKeeps_r9) (.seq (.reg [2, 3, 4, 5, 12, 13, 14, 15, 16, 17, 18] f_law09_TremorKeeps_r10) (.seq (.reg [2, 3, 4, 5, 12, 13, 14, 15, 16, 17, 18, 19] f_law09_TremorKeeps_r11) (.seq (.reg [2, 3, 4, 5, 12, 13, 14, 15, 16, 17, 18, 19, 20] f_law09_TremorKeeps_r12) (.reg [2, 3, 4, 5, 12, 13, 14] f_law09_TremorKeeps_r13))))))) (.reg [2, 3, 4, 5, 12, 13, 14] f_law09_TremorKeeps_r14)))

def f_law09_TremorKeeps_r16 : List Abs.Op := [
  ⟨some 158, none, false, .ld true 12 (.t 5)⟩,
  ⟨some 159, none, false, .call false (.c (.fn i_law09_Net [] [])) [(.t 158)]⟩,
  ⟨some 160, none, false, .mv (.t 13)⟩,
  ⟨some 161, none, false, .call false (.c (.fn i_tremor_Locate [] [])) [(.t 159), (.t 160)]⟩,
  ⟨some 157, none, false, .mv (.t 161)⟩,
  ⟨some 162, none, false, .ext (.t 157) 0⟩,
  ⟨some 163, none, false, .ext (.t 157) 1⟩,
  ⟨some 21, none, false, .mv (.t 162)⟩,
  ⟨some 22, none, false, .mv (.t 163)⟩]

def f_law09_TremorKeeps_r17 : List Abs.Op := [
  ⟨some 164, none, false, .mv (.t 22)⟩,
  ⟨some 165, none, false, .bin .neq (.t 164) (.c (.int .i64 0))⟩]

def f_law09_TremorKeeps_r18 : List Abs.Op := [
  ⟨some 10, none, false, .mv (.c (.bool false))⟩]

def f_law09_TremorKeeps_r19 : List Abs.Op := [
  ⟨some 23, none, false, .mv (.c (.bool false))⟩]

def f_law09_TremorKeeps_r20 : List Abs.Op := [
  ⟨some 24, none, false, .mv (.c (.int .i64 0))⟩]

def f_law09_TremorKeeps_r21 : List Abs.Op := [
  ⟨some 166, none, false, .mv (.t 24)⟩,
  ⟨some 167, none, false, .mv (.t 21)⟩,
  ⟨some 168, none, false, .lenS (.t 167)⟩,
  ⟨some 169, none, false, .bin .lss (.t 166) (.t 168)⟩]

def f_law09_TremorKeeps_r22 : List Abs.Op := [
  ⟨some 172, none, true, .mv (.t 23)⟩,
  ⟨some 173, none, true, .mv (.t 172)⟩,
  ⟨some 174, some (173, false), true, .mv (.t 21)⟩,
  ⟨some 175, some (173, false), true, .mv (.t 24)⟩,
  ⟨some 176, some (173, false), true, .idxS 5 (.t 174) (.t 175)⟩,
  ⟨some 177, some (173, false), true, .fadr 0 (.t 176)⟩,
  ⟨some 178, some (173, false), true, .ld true 3 (.t 177)⟩,
  ⟨some 179, some (173, false), true, .ldv 12 true 3 12⟩,
  ⟨some 180, some (173, false), true, .call false (.c (.fn i_law09_Point [] [])) [(.t 179)]⟩,
  ⟨some 181, some (173, false), true, .eqv true [some .i64, some .i64, some .i64] false (.t 178) (.t 180)⟩,
  ⟨some 182, some (173, false), true, .mv (.t 181)⟩,
  ⟨some 183, some (182, true), true, .mv (.t 21)⟩,
  ⟨some 184, some (182, true), true, .mv (.t 24)⟩,
  ⟨some 185, some (182, true), true, .idxS 5 (.t 183) (.t 184)⟩,
  ⟨some 186, some (182, true), true, .fadr 3 (.t 185)⟩,
  ⟨some 187, some (182, true), true, .fadr 0 (.t 186)⟩,
  ⟨some 188, some (182, true), true, .ld false 1 (.t 187)⟩,
  ⟨some 189, some (182, true), true, .mv (.t 2)⟩,
  ⟨some 190, some (182, true), true, .bin .leq (.t 188) (.t 189)⟩,
  ⟨some 191, some (173, false), true, .pick (.t 182) (.t 190) (.c (.bool false))⟩,
  ⟨some 192, some (173, false), true, .mv (.t 191)⟩,
  ⟨some 193, some (192, true), true, .mv (.t 2)⟩,
  ⟨some 194, some (192, true), true, .mv (.t 21)⟩,
  ⟨some 195, some (192, true), true, .mv (.t 24)⟩,
  ⟨some 196, some (192, true), true, .idxS 5 (.t 194) (.t 195)⟩,
  ⟨some 197, some (192, true), true, .fadr 3 (.t 196)⟩,
  ⟨some 198, some (192, true), true, .fadr 1 (.t 197)⟩,
  ⟨some 199, some (192, true), true, .ld false 1 (.t 198)⟩,
  ⟨some 200, some (192, true), false, .bin .leq (.t 193) (.t 199)⟩,
  ⟨some 201, some (173, false), false, .pick (.t 192) (.t 200) (.c (.bool false))⟩,
  ⟨some 202, none, false, .pick (.t 173) (.c (.bool true)) (.t 201)⟩,
  ⟨some 23, none, false, .mv (.t 202)⟩]

def f_law09_TremorKeeps_r23 : List Abs.Op := [
  ⟨some 170, none, false, .mv (.t 24)⟩,
  ⟨some 171, none, false, .bin .add (.t 170) (.c (.int .i64 1))⟩,
  ⟨some 24, none, false, .mv (.t 171)⟩]

def f_law09_TremorKeeps_l24 : Abs.Cmd :=
  (.seq (.seq (.reg [2, 5, 12, 13, 21, 23, 24, 169] f_law09_TremorKeeps_r21) (.ite (.t 169) .nop (.exit 2))) (.seq (.blk 3 (.reg [2, 5, 12, 13, 21, 23, 24] f_law09_TremorKeeps_r22)) (.reg [2, 5, 12, 13, 21, 23, 24] f_law09_TremorKeeps_r23)))

def f_law09_TremorKeeps_r25 : List Abs.Op := [
  ⟨some 204, none, true, .ld true 12 (.t 5)⟩,
  ⟨some 205, none, true, .call false (.c (.fn i_law09_Net [] [])) [(.t 204)]⟩,
  ⟨some 206, none, true, .mv (.t 13)⟩,
  ⟨some 207, none, true, .mv (.t 13)⟩,
  ⟨some 208, none, true, .lenS (.t 207)⟩,
  ⟨some 209, none, true, .bin .sub (.t 208) (.c (.int .i64 1))⟩,
  ⟨some 210, none, true, .mx (.c (.int .i64 1)) (.t 209)⟩,
  ⟨some 211, none, true, .slc 4 (.t 206) none (some (.t 210)) none⟩,
  ⟨some 212, none, true, .cpi 4 32 (.t 211)⟩,
  ⟨some 213, none, true, .call false (.c (.fn i_tremor_Locate [] [])) [(.t 205), (.t 212)]⟩,
  ⟨some 203, none, true, .mv (.t 213)⟩,
  ⟨some 214, none, true, .ext (.t 203) 0⟩,
  ⟨some 215, none, true, .ext (.t 203) 1⟩,
  ⟨some 25, none, true, .mv (.t 214)⟩,
  ⟨some 26, none, false, .mv (.t 215)⟩]

def f_law09_TremorKeeps_r26 : List Abs.Op := [
  ⟨some 216, none, false, .mv (.t 23)⟩,
  ⟨some 217, none, false, .un .not (.t 216)⟩,
  ⟨some 218, none, false, .mv (.t 217)⟩,
  ⟨some 219, some (218, false), false, .mv (.t 26)⟩,
  ⟨some 220, some (218, false), false, .bin .neq (.t 219) (.c (.int .i64 0))⟩,
  ⟨some 221, none, false, .pick (.t 218) (.c (.bool true)) (.t 220)⟩,
  ⟨some 222, none, false, .mv (.t 221)⟩,
  ⟨some 223, some (222, false), false, .mv (.t 25)⟩,
  ⟨some 224, some (222, false), false, .lenS (.t 223)⟩,
  ⟨some 225, some (222, false), false, .mv (.t 21)⟩,
  ⟨some 226, some (222, false), false, .lenS (.t 225)⟩,
  ⟨some 227, some (222, false), false, .bin .lss (.t 224) (.t 226)⟩,
  ⟨some 228, none, false, .pick (.t 222) (.c (.bool true)) (.t 227)⟩]

def f_law09_TremorKeeps_r27 : List Abs.Op := [
  ⟨some 10, none, false, .mv (.c (.bool false))⟩]

def f_law09_TremorKeeps_r28 : List Abs.Op := [
  ⟨some 27, none, false, .mv (.c (.int .i64 0))⟩]

def f_law09_TremorKeeps_r29 : List Abs.Op := [
  ⟨some 28, none, false, .mv (.c (.int .i64 0))⟩]

def f_law09_TremorKeeps_r30 : List Abs.Op := [
  ⟨some 229, none, false, .mv (.t 28)⟩,
  ⟨some 230, none, false, .mv (.t 21)⟩,
  ⟨some 231, none, false, .lenS (.t 230)⟩,
  ⟨some 232, none, false, .bin .lss (.t 229) (.t 231)⟩]

def f_law09_TremorKeeps_r31 : List Abs.Op := [
  ⟨some 235, none, true, .mv (.t 27)⟩,
  ⟨some 236, none, true, .mv (.t 25)⟩,
  ⟨some 237, none, true, .lenS (.t 236)⟩,
  ⟨some 238, none, true, .bin .lss (.t 235) (.t 237)⟩,
  ⟨some 239, none, true, .mv (.t 238)⟩,
  ⟨some 240, some (239, true), true, .mv (.t 25)⟩,
  ⟨some 241, some (239, true), true, .mv (.t 27)⟩,
  ⟨some 242, some (239, true), true, .idxS 5 (.t 240) (.t 241)⟩,
  ⟨some 243, some (239, true), true, .fadr 0 (.t 242)⟩,
  ⟨some 244, some (239, true), true, .ld true 3 (.t 243)⟩,
  ⟨some 245, some (239, true), true, .mv (.t 21)⟩,
  ⟨some 246, some (239, true), true, .mv (.t 28)⟩,
  ⟨some 247, some (239, true), true, .idxS 5 (.t 245) (.t 246)⟩,
  ⟨some 248, some (239, true), true, .fadr 0 (.t 247)⟩,
  ⟨some 249, some (239, true), true, .ld true 3 (.t 248)⟩,
  ⟨some 250, some (239, true), false, .eqv true [some .i64, some .i64, some .i64] true (.t 244) (.t 249)⟩,
  ⟨some 251, none, false, .pick (.t 239) (.t 250) (.c (.bool false))⟩]

def f_law09_TremorKeeps_r32 : List Abs.Op := [
  ⟨some 252, none, false, .mv (.t 27)⟩,
  ⟨some 253, none, false, .bin .add (.t 252) (.c (.int .i64 1))⟩,
  ⟨some 27, none, false, .mv (.t 253)⟩]

def f_law09_TremorKeeps_l33 : Abs.Cmd :=
  (.seq (.seq (.reg [21, 25, 27, 28, 251] f_law09_TremorKeeps_r31) (.ite (.t 251) .nop (.exit 6))) (.blk 7 (.reg [21, 25, 27, 28] f_law09_TremorKeeps_r32)))

def f_law09_TremorKeeps_r34 : List Abs.Op := [
  ⟨some 254, none, true, .mv (.t 27)⟩,
  ⟨some 255, none, true, .mv (.t 25)⟩,
  ⟨some 256, none, true, .lenS (.t 255)⟩,
  ⟨some 257, none, true, .bin .eql (.t 254) (.t 256)⟩,
  ⟨some 258, none, true, .mv (.t 257)⟩,
  ⟨some 259, some (258, false), true, .mv (.t 25)⟩,
  ⟨some 260, some (258, false), true, .mv (.t 27)⟩,
  ⟨some 261, some (258, false), true, .idxS 5 (.t 259) (.t 260)⟩,
  ⟨some 262, some (258, false), true, .fadr 3 (.t 261)⟩,
  ⟨some 263, some (258, false), true, .fadr 0 (.t 262)⟩,
  ⟨some 264, some (258, false), true, .ld false 1 (.t 263)⟩,
  ⟨some 265, some (258, false), true, .mv (.t 21)⟩,
  ⟨some 266, some (258, false), true, .mv (.t 28)⟩,
  ⟨some 267, some (258, false), true, .idxS 5 (.t 265) (.t 266)⟩,
  ⟨some 268, some (258, false), true, .fadr 3 (.t 267)⟩,
  ⟨some 269, some (258, false), true, .fadr 0 (.t 268)⟩,
  ⟨some 270, some (258, false), true, .ld false 1 (.t 269)⟩,
  ⟨some 271, some (258, false), true, .bin .gtr (.t 264) (.t 270)⟩,
  ⟨some 272, none, true, .pick (.t 258) (.c (.bool true)) (.t 271)⟩,
  ⟨some 273, none, true, .mv (.t 272)⟩,
  ⟨some 274, some (273, false), true, .mv (.t 25)⟩,
  ⟨some 275, some (273, false), true, .mv (.t 27)⟩,
  ⟨some 276, some (273, false), true, .idxS 5 (.t 274) (.t 275)⟩,
  ⟨some 277, some (273, false), true, .fadr 3 (.t 276)⟩,
  ⟨some 278, some (273, false), true, .fadr 1 (.t 277)⟩,
  ⟨some 279, some (273, false), true, .ld false 1 (.t 278)⟩,
  ⟨some 280, some (273, false), true, .mv (.t 21)⟩,
  ⟨some 281, some (273, false), true, .mv (.t 28)⟩,
  ⟨some 282, some (273, false), true, .idxS 5 (.t 280) (.t 281)⟩,
  ⟨some 283, some (273, false), true, .fadr 3 (.t 282)⟩,
  ⟨some 284, some (273, false), true, .fadr 1 (.t 283)⟩,
  ⟨some 285, some (273, false), true, .ld false 1 (.t 284)⟩,
  ⟨some 286, some (273, false), false, .bin .lss (.t 279) (.t 285)⟩,
  ⟨some 287, none, false, .pick (.t 273) (.c (.bool true)) (.t 286)⟩]

def f_law09_TremorKeeps_r35 : List Abs.Op := [
  ⟨some 10, none, false, .mv (.c (.bool false))⟩]

def f_law09_TremorKeeps_r36 : List Abs.Op := [
  ⟨some 233, none, false, .mv (.t 28)⟩,
  ⟨some 234, none, false, .bin .add (.t 233) (.c (.int .i64 1))⟩,
  ⟨some 28, none, false, .mv (.t 234)⟩]

def f_law09_TremorKeeps_l37 : Abs.Cmd :=
  (.seq (.seq (.reg [21, 25, 27, 28, 232] f_law09_TremorKeeps_r30) (.ite (.t 232) .nop (.exit 4))) (.seq (.blk 5 (.seq (.blk 6 (.loop [21, 25, 27, 28] false f_law09_TremorKeeps_l33)) (.seq (.reg [21, 25, 27, 28, 287] f_law09_TremorKeeps_r34) (.ite (.t 287) (.seq (.reg [10] f_law09_TremorKeeps_r35) .ret) .nop)))) (.reg [21, 25, 27, 28] f_law09_TremorKeeps_r36)))

def f_law09_TremorKeeps_r38 : List Abs.Op := [
  ⟨some 288, none, false, .call false (.c (.fn i_law09_awake [] [])) []⟩,
  ⟨some 10, none, false, .mv (.t 288)⟩]

def a_law09_TremorKeeps : Ann := ⟨[(34, [10]), (29, [21, 25, 27, 28]), (33, [10]), (32, [21, 25, 27, 28, 287]), (31, [21, 25, 27, 28]), (30, [21, 25, 27, 28, 251]), (28, [21, 25, 27, 28, 232]), (27, [21, 25, 27, 28]), (26, [21, 25, 27]), (25, [10]), (24, [21, 25, 228]), (23, [21, 23, 25, 26]), (21, [2, 5, 12, 13, 21, 23, 24]), (22, [2, 5, 12, 13, 21, 23, 24]), (20, [2, 5, 12, 13, 21, 23, 24, 169]), (19, [2, 5, 12, 13, 21, 23, 24]), (18, [2, 5, 12, 13, 21, 23]), (17, [10]), (16, [2, 5, 12, 13, 21, 165]), (15, [2, 5, 12, 13, 21, 22]), (8, [2, 3, 4, 5, 12, 13, 14]), (14, [2, 3, 4, 5, 12, 13, 14]), (13, [2, 3, 4, 5, 12, 13, 14, 15, 16, 17, 18, 19, 20]), (12, [2, 3, 4, 5, 12, 13, 14, 15, 16, 17, 18, 19]), (11, [2, 3, 4, 5, 12, 13, 14, 15, 16, 17, 18]), (10, [2, 3, 4, 5, 12, 13, 14, 15, 16, 17]), (9, [2, 3, 4, 5, 12, 13, 14, 15, 16]), (7, [2, 3, 4, 5, 12, 13, 14, 53]), (6, [2, 3, 4, 5, 12, 13, 14]), (5, [2, 3, 4, 5, 12, 13]), (4, [2, 3, 4, 5, 12]), (3, [1, 2, 3, 4, 5, 11]), (2, [10]), (1, [1, 2, 3, 4, 5, 36]), (0, [1, 2, 3, 4, 5])], [(6, [21, 25, 27, 28]), (4, [21, 25, 27, 28]), (2, [2, 5, 12, 13, 21, 23, 24]), (0, [2, 3, 4, 5, 12, 13, 14])], [], [12, 13], [12], [], [], [(15, [13])]⟩
def f_law09_TremorKeeps : Abs.Fn := ⟨5, [.t 10],
  (.seq (.reg [1, 2, 3, 4, 5] f_law09_TremorKeeps_r0) (.seq (.seq (.reg [1, 2, 3, 4, 5, 36] f_law09_TremorKeeps_r1) (.ite (.t 36) (.seq (.reg [10] f_law09_TremorKeeps_r2) .ret) .nop)) (.seq (.reg [1, 2, 3, 4, 5, 11] f_law09_TremorKeeps_r3) (.seq (.reg [2, 3, 4, 5, 12] f_law09_TremorKeeps_r4) (.seq (.reg [2, 3, 4, 5, 12, 13] f_law09_TremorKeeps_r5) (.seq (.seq (.reg [2, 3, 4, 5, 12, 13, 14] f_law09_TremorKeeps_r6) (.blk 0 (.loop [2, 3, 4, 5, 12, 13, 14] false f_law09_TremorKeeps_l15))) (.seq (.seq (.frz [13]) (.reg [2, 5, 12, 13, 21, 22] f_law09_TremorKeeps_r16)) (.seq (.seq (.reg [2, 5, 12, 13, 21, 165] f_law09_TremorKeeps_r17) (.ite (.t 165) (.seq (.reg [10] f_law09_TremorKeeps_r18) .ret) .nop)) (.seq (.reg [2, 5, 12, 13, 21, 23] f_law09_TremorKeeps_r19) (.seq (.seq (.reg [2, 5, 12, 13, 21, 23, 24] f_law09_TremorKeeps_r20) (.blk 2 (.loop [2, 5, 12, 13, 21, 23, 24] false f_law09_TremorKeeps_l24))) (.seq (.reg [21, 23, 25, 26] f_law09_TremorKeeps_r25) (.seq (.seq (.reg [21, 25, 228] f_law09_TremorKeeps_r26) (.ite (.t 228) (.seq (.reg [10] f_law09_TremorKeeps_r27) .ret) .nop)) (.seq (.reg [21, 25, 27] f_law09_TremorKeeps_r28) (.seq (.seq (.reg [21, 25, 27, 28] f_law09_TremorKeeps_r29) (.blk 4 (.loop [21, 25, 27, 28] false f_law09_TremorKeeps_l37))) (.seq (.reg [10] f_law09_TremorKeeps_r38) .ret)))))))))))))))⟩

theorem e_law09_TremorKeeps_r0 : type_of% f_law09_TremorKeeps_r0.eq_1 := by_rfl f_law09_TremorKeeps_r0.eq_1
theorem e_law09_TremorKeeps_r1 : type_of% f_law09_TremorKeeps_r1.eq_1 := by_rfl f_law09_TremorKeeps_r1.eq_1
theorem e_law09_TremorKeeps_r2 : type_of% f_law09_TremorKeeps_r2.eq_1 := by_rfl f_law09_TremorKeeps_r2.eq_1
theorem e_law09_TremorKeeps_r3 : type_of% f_law09_TremorKeeps_r3.eq_1 := by_rfl f_law09_TremorKeeps_r3.eq_1
theorem e_law09_TremorKeeps_r4 : type_of% f_law09_TremorKeeps_r4.eq_1 := by_rfl f_law09_TremorKeeps_r4.eq_1
theorem e_law09_TremorKeeps_r5 : type_of% f_law09_TremorKeeps_r5.eq_1 := by_rfl f_law09_TremorKeeps_r5.eq_1
theorem e_law09_TremorKeeps_r6 : type_of% f_law09_TremorKeeps_r6.eq_1 := by_rfl f_law09_TremorKeeps_r6.eq_1
theorem e_law09_TremorKeeps_r7 : type_of% f_law09_TremorKeeps_r7.eq_1 := by_rfl f_law09_TremorKeeps_r7.eq_1
theorem e_law09_TremorKeeps_r8 : type_of% f_law09_TremorKeeps_r8.eq_1 := by_rfl f_law09_TremorKeeps_r8.eq_1
theorem e_law09_TremorKeeps_r9 : type_of% f_law09_TremorKeeps_r9.eq_1 := by_rfl f_law09_TremorKeeps_r9.eq_1
theorem e_law09_TremorKeeps_r10 : type_of% f_law09_TremorKeeps_r10.eq_1 := by_rfl f_law09_TremorKeeps_r10.eq_1
theorem e_law09_TremorKeeps_r11 : type_of% f_law09_TremorKeeps_r11.eq_1 := by_rfl f_law09_TremorKeeps_r11.eq_1
theorem e_law09_TremorKeeps_r12 : type_of% f_law09_TremorKeeps_r12.eq_1 := by_rfl f_law09_TremorKeeps_r12.eq_1
theorem e_law09_TremorKeeps_r13 : type_of% f_law09_TremorKeeps_r13.eq_1 := by_rfl f_law09_TremorKeeps_r13.eq_1
theorem e_law09_TremorKeeps_r14 : type_of% f_law09_TremorKeeps_r14.eq_1 := by_rfl f_law09_TremorKeeps_r14.eq_1
theorem e_law09_TremorKeeps_l15 : type_of% f_law09_TremorKeeps_l15.eq_1 := by_rfl f_law09_TremorKeeps_l15.eq_1
theorem e_law09_TremorKeeps_r16 : type_of% f_law09_TremorKeeps_r16.eq_1 := by_rfl f_law09_TremorKeeps_r16.eq_1
theorem e_law09_TremorKeeps_r17 : type_of% f_law09_TremorKeeps_r17.eq_1 := by_rfl f_law09_TremorKeeps_r17.eq_1
theorem e_law09_TremorKeeps_r18 : type_of% f_law09_TremorKeeps_r18.eq_1 := by_rfl f_law09_TremorKeeps_r18.eq_1
theorem e_law09_TremorKeeps_r19 : type_of% f_law09_TremorKeeps_r19.eq_1 := by_rfl f_law09_TremorKeeps_r19.eq_1
theorem e_law09_TremorKeeps_r20 : type_of% f_law09_TremorKeeps_r20.eq_1 := by_rfl f_law09_TremorKeeps_r20.eq_1
theorem e_law09_TremorKeeps_r21 : type_of% f_law09_TremorKeeps_r21.eq_1 := by_rfl f_law09_TremorKeeps_r21.eq_1
theorem e_law09_TremorKeeps_r22 : type_of% f_law09_TremorKeeps_r22.eq_1 := by_rfl f_law09_TremorKeeps_r22.eq_1
theorem e_law09_TremorKeeps_r23 : type_of% f_law09_TremorKeeps_r23.eq_1 := by_rfl f_law09_TremorKeeps_r23.eq_1
theorem e_law09_TremorKeeps_l24 : type_of% f_law09_TremorKeeps_l24.eq_1 := by_rfl f_law09_TremorKeeps_l24.eq_1
theorem e_law09_TremorKeeps_r25 : type_of% f_law09_TremorKeeps_r25.eq_1 := by_rfl f_law09_TremorKeeps_r25.eq_1
theorem e_law09_TremorKeeps_r26 : type_of% f_law09_TremorKeeps_r26.eq_1 := by_rfl f_law09_TremorKeeps_r26.eq_1
theorem e_law09_TremorKeeps_r27 : type_of% f_law09_TremorKeeps_r27.eq_1 := by_rfl f_law09_TremorKeeps_r27.eq_1
theorem e_law09_TremorKeeps_r28 : type_of% f_law09_TremorKeeps_r28.eq_1 := by_rfl f_law09_TremorKeeps_r28.eq_1
theorem e_law09_TremorKeeps_r29 : type_of% f_law09_TremorKeeps_r29.eq_1 := by_rfl f_law09_TremorKeeps_r29.eq_1
theorem e_law09_TremorKeeps_r30 : type_of% f_law09_TremorKeeps_r30.eq_1 := by_rfl f_law09_TremorKeeps_r30.eq_1
theorem e_law09_TremorKeeps_r31 : type_of% f_law09_TremorKeeps_r31.eq_1 := by_rfl f_law09_TremorKeeps_r31.eq_1
theorem e_law09_TremorKeeps_r32 : type_of% f_law09_TremorKeeps_r32.eq_1 := by_rfl f_law09_TremorKeeps_r32.eq_1
theorem e_law09_TremorKeeps_l33 : type_of% f_law09_TremorKeeps_l33.eq_1 := by_rfl f_law09_TremorKeeps_l33.eq_1
theorem e_law09_TremorKeeps_r34 : type_of% f_law09_TremorKeeps_r34.eq_1 := by_rfl f_law09_TremorKeeps_r34.eq_1
theorem e_law09_TremorKeeps_r35 : type_of% f_law09_TremorKeeps_r35.eq_1 := by_rfl f_law09_TremorKeeps_r35.eq_1
theorem e_law09_TremorKeeps_r36 : type_of% f_law09_TremorKeeps_r36.eq_1 := by_rfl f_law09_TremorKeeps_r36.eq_1
theorem e_law09_TremorKeeps_l37 : type_of% f_law09_TremorKeeps_l37.eq_1 := by_rfl f_law09_TremorKeeps_l37.eq_1
theorem e_law09_TremorKeeps_r38 : type_of% f_law09_TremorKeeps_r38.eq_1 := by_rfl f_law09_TremorKeeps_r38.eq_1
theorem e_law09_TremorKeeps : type_of% f_law09_TremorKeeps.eq_1 := by_rfl f_law09_TremorKeeps.eq_1
theorem ok_law09_TremorKeeps : fnC Try.prog a_law09_TremorKeeps Try.f6 = some f_law09_TremorKeeps := by kernel_rfl

/-! 7 fumarole/fumarolelaw09.TremorEases -/
def f_law09_TremorEases_r0 : List Abs.Op := [
  ⟨some 7, none, false, .boxi (.t 2)⟩,
  ⟨some 10, none, false, .mv (.c (.bool false))⟩]

def f_law09_TremorEases_r1 : List Abs.Op := [
  ⟨some 18, none, false, .mv (.t 0)⟩,
  ⟨some 19, none, false, .lenS (.t 18)⟩,
  ⟨some 20, none, false, .bin .lss (.t 19) (.c (.int .i64 1))⟩,
  ⟨some 21, none, false, .mv (.t 20)⟩,
  ⟨some 22, some (21, false), false, .mv (.t 0)⟩,
  ⟨some 23, some (21, false), false, .lenS (.t 22)⟩,
  ⟨some 24, some (21, false), false, .bin .gtr (.t 23) (.c (.int .i64 60))⟩,
  ⟨some 25, none, false, .pick (.t 21) (.c (.bool true)) (.t 24)⟩,
  ⟨some 26, none, false, .mv (.t 25)⟩,
  ⟨some 27, some (26, false), false, .mv (.t 0)⟩,
  ⟨some 28, some (26, false), false, .mv (.t 1)⟩,
  ⟨some 29, some (26, false), false, .ld true 3 (.t 7)⟩,
  ⟨some 30, some (26, false), false, .mv (.t 3)⟩,
  ⟨some 31, some (26, false), false, .call false (.c (.fn i_ref09_RightPlan [] [])) [(.t 27), (.t 28), (.t 29), (.t 30)]⟩,
  ⟨some 32, some (26, false), false, .un .not (.t 31)⟩,
  ⟨some 33, none, false, .pick (.t 26) (.c (.bool true)) (.t 32)⟩]

def f_law09_TremorEases_r2 : List Abs.Op := [
  ⟨some 34, none, false, .call false (.c (.fn i_law09_awake [] [])) []⟩,
  ⟨some 10, none, false, .mv (.t 34)⟩]

def f_law09_TremorEases_r3 : List Abs.Op := [
  ⟨some 36, none, true, .mv (.t 0)⟩,
  ⟨some 37, none, true, .cpi 1 8 (.t 36)⟩,
  ⟨some 38, none, true, .mv (.t 1)⟩,
  ⟨some 39, none, true, .cpi 1 1 (.t 38)⟩,
  ⟨some 40, none, true, .ld true 3 (.t 7)⟩,
  ⟨some 41, none, true, .mv (.t 3)⟩,
  ⟨some 42, none, true, .call false (.c (.fn i_tremor_Inject [] [])) [(.t 37), (.t 39), (.t 40), (.t 41)]⟩,
  ⟨some 35, none, true, .mv (.t 42)⟩,
  ⟨some 43, none, true, .ext (.t 35) 0⟩,
  ⟨some 44, none, true, .ext (.t 35) 1⟩,
  ⟨some 11, none, true, .mv (.t 43)⟩,
  ⟨some 12, none, false, .mv (.t 44)⟩]

def f_law09_TremorEases_r4 : List Abs.Op := [
  ⟨some 45, none, false, .mv (.t 4)⟩,
  ⟨some 46, none, false, .cvt .i64 (.t 45)⟩,
  ⟨some 47, none, false, .mv (.t 0)⟩,
  ⟨some 48, none, false, .lenS (.t 47)⟩,
  ⟨some 49, none, false, .bin .rem (.t 46) (.t 48)⟩,
  ⟨some 13, none, false, .mv (.t 49)⟩]

def f_law09_TremorEases_r5 : List Abs.Op := [
  ⟨some 50, none, false, .mv (.t 1)⟩,
  ⟨some 51, none, false, .app 1 1 (.c .nils) (.t 50)⟩,
  ⟨some 14, none, false, .mv (.t 51)⟩]

def f_law09_TremorEases_r6 : List Abs.Op := [
  ⟨some 52, none, false, .mv (.t 14)⟩,
  ⟨some 53, none, false, .mv (.t 13)⟩,
  ⟨some 54, none, false, .idxS 1 (.t 52) (.t 53)⟩,
  ⟨some 55, none, false, .ld false 1 (.t 54)⟩,
  ⟨some 56, none, false, .bin .gtr (.t 55) (.c (.int .u8 0))⟩]

def f_law09_TremorEases_r7 : List Abs.Op := [
  ⟨some 57, none, false, .mv (.t 14)⟩,
  ⟨some 58, none, false, .mv (.t 13)⟩,
  ⟨some 59, none, false, .idxS 1 (.t 57) (.t 58)⟩,
  ⟨some 60, none, false, .ld false 1 (.t 59)⟩,
  ⟨some 61, none, false, .bin .sub (.t 60) (.c (.int .u8 1))⟩,
  ⟨some 62, none, false, .idxS 1 (.t 57) (.t 58)⟩,
  ⟨none, none, false, .st [] 1 (.t 62) (.t 61)⟩]

def f_law09_TremorEases_r8 : List Abs.Op := [
  ⟨some 64, none, true, .mv (.t 0)⟩,
  ⟨some 65, none, true, .cpi 1 8 (.t 64)⟩,
  ⟨some 66, none, true, .mv (.t 14)⟩,
  ⟨some 67, none, true, .ld true 3 (.t 7)⟩,
  ⟨some 68, none, true, .mv (.t 3)⟩,
  ⟨some 69, none, true, .call false (.c (.fn i_tremor_Inject [] [])) [(.t 65), (.t 66), (.t 67), (.t 68)]⟩,
  ⟨some 63, none, true, .mv (.t 69)⟩,
  ⟨some 70, none, true, .ext (.t 63) 0⟩,
  ⟨some 71, none, true, .ext (.t 63) 1⟩,
  ⟨some 15, none, true, .mv (.t 70)⟩,
  ⟨some 16, none, false, .mv (.t 71)⟩]

def f_law09_TremorEases_r9 : List Abs.Op := [
  ⟨some 72, none, false, .mv (.t 12)⟩,
  ⟨some 73, none, false, .bin .neq (.t 72) (.c (.int .i64 0))⟩,
  ⟨some 74, none, false, .mv (.t 73)⟩,
  ⟨some 75, some (74, false), false, .mv (.t 16)⟩,
  ⟨some 76, some (74, false), false, .bin .neq (.t 75) (.c (.int .i64 0))⟩,
  ⟨some 77, none, false, .pick (.t 74) (.c (.bool true)) (.t 76)⟩,
  ⟨some 78, none, false, .mv (.t 77)⟩,
  ⟨some 79, some (78, false), false, .mv (.t 11)⟩,
  ⟨some 80, some (78, false), false, .lenS (.t 79)⟩,
  ⟨some 81, some (78, false), false, .mv (.t 0)⟩,
  ⟨some 82, some (78, false), false, .lenS (.t 81)⟩,
  ⟨some 83, some (78, false), false, .bin .neq (.t 80) (.t 82)⟩,
  ⟨some 84, none, false, .pick (.t 78) (.c (.bool true)) (.t 83)⟩,
  ⟨some 85, none, false, .mv (.t 84)⟩,
  ⟨some 86, some (85, false), false, .mv (.t 15)⟩,
  ⟨some 87, some (85, false), false, .lenS (.t 86)⟩,
  ⟨some 88, some (85, false), false, .mv (.t 0)⟩,
  ⟨some 89, some (85, false), false, .lenS (.t 88)⟩,
  ⟨some 90, some (85, false), false, .bin .neq (.t 87) (.t 89)⟩,
  ⟨some 91, none, false, .pick (.t 85) (.c (.bool true)) (.t 90)⟩]

def f_law09_TremorEases_r10 : List Abs.Op := [
  ⟨some 10, none, false, .mv (.c (.bool false))⟩]

def f_law09_TremorEases_r11 : List Abs.Op := [
  ⟨some 17, none, false, .mv (.c (.int .i64 0))⟩]

def f_law09_TremorEases_r12 : List Abs.Op := [
  ⟨some 92, none, false, .mv (.t 17)⟩,
  ⟨some 93, none, false, .mv (.t 11)⟩,
  ⟨some 94, none, false, .lenS (.t 93)⟩,
  ⟨some 95, none, false, .bin .lss (.t 92) (.t 94)⟩]

def f_law09_TremorEases_r13 : List Abs.Op := [
  ⟨some 98, none, true, .mv (.t 11)⟩,
  ⟨some 99, none, true, .mv (.t 17)⟩,
  ⟨some 100, none, true, .idxS 1 (.t 98) (.t 99)⟩,
  ⟨some 101, none, true, .ld false 1 (.t 100)⟩,
  ⟨some 102, none, true, .bin .lss (.t 101) (.c (.int .i64 0))⟩,
  ⟨some 103, none, true, .mv (.t 102)⟩,
  ⟨some 104, some (103, false), true, .mv (.t 11)⟩,
  ⟨some 105, some (103, false), true, .mv (.t 17)⟩,
  ⟨some 106, some (103, false), true, .idxS 1 (.t 104) (.t 105)⟩,
  ⟨some 107, some (103, false), true, .ld false 1 (.t 106)⟩,
  ⟨some 108, some (103, false), true, .mv (.t 0)⟩,
  ⟨some 109, some (103, false), true, .mv (.t 17)⟩,
  ⟨some 110, some (103, false), true, .idxS 1 (.t 108) (.t 109)⟩,
  ⟨some 111, some (103, false), true, .ld false 1 (.t 110)⟩,
  ⟨some 112, some (103, false), true, .bin .gtr (.t 107) (.t 111)⟩,
  ⟨some 113, none, true, .pick (.t 103) (.c (.bool true)) (.t 112)⟩,
  ⟨some 114, none, true, .mv (.t 113)⟩,
  ⟨some 115, some (114, false), true, .mv (.t 17)⟩,
  ⟨some 116, some (114, false), true, .bin .gtr (.t 115) (.c (.int .i64 0))⟩,
  ⟨some 117, some (114, false), true, .mv (.t 116)⟩,
  ⟨some 118, some (117, true), true, .mv (.t 11)⟩,
  ⟨some 119, some (117, true), true, .mv (.t 17)⟩,
  ⟨some 120, some (117, true), true, .idxS 1 (.t 118) (.t 119)⟩,
  ⟨some 121, some (117, true), true, .ld false 1 (.t 120)⟩,
  ⟨some 122, some (117, true), true, .mv (.t 11)⟩,
  ⟨some 123, some (117, true), true, .mv (.t 17)⟩,
  ⟨some 124, some (117, true), true, .bin .sub (.t 123) (.c (.int .i64 1))⟩,
  ⟨some 125, some (117, true), true, .idxS 1 (.t 122) (.t 124)⟩,
  ⟨some 126, some (117, true), true, .ld false 1 (.t 125)⟩,
  ⟨some 127, some (117, true), true, .mv (.t 3)⟩,
  ⟨some 128, some (117, true), true, .bin .add (.t 126) (.t 127)⟩,
  ⟨some 129, some (117, true), true, .bin .gtr (.t 121) (.t 128)⟩,
  ⟨some 130, some (114, false), true, .pick (.t 117) (.t 129) (.c (.bool false))⟩,
  ⟨some 131, none, true, .pick (.t 114) (.c (.bool true)) (.t 130)⟩,
  ⟨some 132, none, true, .mv (.t 131)⟩,
  ⟨some 133, some (132, false), true, .mv (.t 11)⟩,
  ⟨some 134, some (132, false), true, .mv (.t 17)⟩,
  ⟨some 135, some (132, false), true, .idxS 1 (.t 133) (.t 134)⟩,
  ⟨some 136, some (132, false), true, .ld false 1 (.t 135)⟩,
  ⟨some 137, some (132, false), true, .mv (.t 15)⟩,
  ⟨some 138, some (132, false), true, .mv (.t 17)⟩,
  ⟨some 139, some (132, false), true, .idxS 1 (.t 137) (.t 138)⟩,
  ⟨some 140, some (132, false), true, .ld false 1 (.t 139)⟩,
  ⟨some 141, some (132, false), true, .bin .gtr (.t 136) (.t 140)⟩,
  ⟨some 142, none, true, .pick (.t 132) (.c (.bool true)) (.t 141)⟩,
  ⟨some 143, none, true, .mv (.t 142)⟩,
  ⟨some 144, some (143, false), true, .mv (.t 1)⟩,
  ⟨some 145, some (143, false), true, .mv (.t 17)⟩,
  ⟨some 146, some (143, false), true, .idxS 1 (.t 144) (.t 145)⟩,
  ⟨some 147, some (143, false), true, .ld false 1 (.t 146)⟩,
  ⟨some 148, some (143, false), true, .bin .eql (.t 147) (.c (.int .u8 2))⟩,
  ⟨some 149, some (143, false), true, .mv (.t 148)⟩,
  ⟨some 150, some (149, true), true, .idxA 3 1 (.t 7) (.c (.int .i64 2))⟩,
  ⟨some 151, some (149, true), true, .ld false 1 (.t 150)⟩,
  ⟨some 152, some (149, true), true, .bin .eql (.t 151) (.c (.int .i64 0))⟩,
  ⟨some 153, some (143, false), true, .pick (.t 149) (.t 152) (.c (.bool false))⟩,
  ⟨some 154, some (143, false), true, .mv (.t 153)⟩,
  ⟨some 155, some (154, true), true, .mv (.t 11)⟩,
  ⟨some 156, some (154, true), true, .mv (.t 17)⟩,
  ⟨some 157, some (154, true), false, .idxS 1 (.t 155) (.t 156)⟩,
  ⟨some 158, some (154, true), false, .ld false 1 (.t 157)⟩,
  ⟨some 159, some (154, true), false, .bin .neq (.t 158) (.c (.int .i64 0))⟩,
  ⟨some 160, some (143, false), false, .pick (.t 154) (.t 159) (.c (.bool false))⟩,
  ⟨some 161, none, false, .pick (.t 143) (.c (.bool true)) (.t 160)⟩]

def f_law09_TremorEases_r14 : List Abs.Op := [
  ⟨some 10, none, false, .mv (.c (.bool false))⟩]

def f_law09_TremorEases_r15 : List Abs.Op := [
  ⟨some 96, none, false, .mv (.t 17)⟩,
  ⟨some 97, none, false, .bin .add (.t 96) (.c (.int .i64 1))⟩,
  ⟨some 17, none, false, .mv (.t 97)⟩]

def f_law09_TremorEases_l16 : Abs.Cmd :=
  (.seq (.seq (.reg [0, 1, 3, 7, 11, 15, 17, 95] f_law09_TremorEases_r12) (.ite (.t 95) .nop (.exit 0))) (.seq (.blk 1 (.seq (.reg [0, 1, 3, 7, 11, 15, 17, 161] f_law09_TremorEases_r13) (.ite (.t 161) (.seq (.reg [10] f_law09_TremorEases_r14) .ret) .nop))) (.reg [0, 1, 3, 7, 11, 15, 17] f_law09_TremorEases_r15)))

def f_law09_TremorEases_r17 : List Abs.Op := [
  ⟨some 162, none, false, .call false (.c (.fn i_law09_awake [] [])) []⟩,
  ⟨some 10, none, false, .mv (.t 162)⟩]

def a_law09_TremorEases : Ann := ⟨[(16, [10]), (13, [0, 1, 3, 7, 11, 15, 17]), (15, [10]), (14, [0, 1, 3, 7, 11, 15, 17, 161]), (12, [0, 1, 3, 7, 11, 15, 17, 95]), (11, [0, 1, 3, 7, 11, 15, 17]), (10, [10]), (9, [0, 1, 3, 7, 11, 15, 91]), (8, [0, 1, 3, 7, 11, 12, 15, 16]), (7, [0, 1, 3, 7, 11, 12, 14]), (6, [0, 1, 3, 7, 11, 12, 13, 14, 56]), (5, [0, 1, 3, 7, 11, 12, 13, 14]), (4, [0, 1, 3, 7, 11, 12, 13]), (3, [0, 1, 3, 4, 7, 11, 12]), (2, [10]), (1, [0, 1, 3, 4, 7, 33]), (0, [0, 1, 3, 4, 7])], [(0, [0, 1, 3, 7, 11, 15, 17])], [], [51], [], [], [], [(8, [14])]⟩
def f_law09_TremorEases : Abs.Fn := ⟨5, [.t 10],
  (.seq (.reg [0, 1, 3, 4, 7] f_law09_TremorEases_r0) (.seq (.seq (.reg [0, 1, 3, 4, 7, 33] f_law09_TremorEases_r1) (.ite (.t 33) (.seq (.reg [10] f_law09_TremorEases_r2) .ret) .nop)) (.seq (.reg [0, 1, 3, 4, 7, 11, 12] f_law09_TremorEases_r3) (.seq (.reg [0, 1, 3, 7, 11, 12, 13] f_law09_TremorEases_r4) (.seq (.reg [0, 1, 3, 7, 11, 12, 13, 14] f_law09_TremorEases_r5) (.seq (.seq (.reg [0, 1, 3, 7, 11, 12, 13, 14, 56] f_law09_TremorEases_r6) (.ite (.t 56) (.reg [0, 1, 3, 7, 11, 12, 14] f_law09_TremorEases_r7) .nop)) (.seq (.seq (.frz [14]) (.reg [0, 1, 3, 7, 11, 12, 15, 16] f_law09_TremorEases_r8)) (.seq (.seq (.reg [0, 1, 3, 7, 11, 15, 91] f_law09_TremorEases_r9) (.ite (.t 91) (.seq (.reg [10] f_law09_TremorEases_r10) .ret) .nop)) (.seq (.seq (.reg [0, 1, 3, 7, 11, 15, 17] f_law09_TremorEases_r11) (.blk 0 (.loop [0, 1, 3, 7, 11, 15, 17] false f_law09_TremorEases_l16))) (.seq (.reg [10] f_law09_TremorEases_r17) .ret))))))))))⟩

theorem e_law09_TremorEases_r0 : type_of% f_law09_TremorEases_r0.eq_1 := by_rfl f_law09_TremorEases_r0.eq_1
theorem e_law09_TremorEases_r1 : type_of% f_law09_TremorEases_r1.eq_1 := by_rfl f_law09_TremorEases_r1.eq_1
theorem e_law09_TremorEases_r2 : type_of% f_law09_TremorEases_r2.eq_1 := by_rfl f_law09_TremorEases_r2.eq_1
theorem e_law09_TremorEases_r3 : type_of% f_law09_TremorEases_r3.eq_1 := by_rfl f_law09_TremorEases_r3.eq_1
theorem e_law09_TremorEases_r4 : type_of% f_law09_TremorEases_r4.eq_1 := by_rfl f_law09_TremorEases_r4.eq_1
theorem e_law09_TremorEases_r5 : type_of% f_law09_TremorEases_r5.eq_1 := by_rfl f_law09_TremorEases_r5.eq_1
theorem e_law09_TremorEases_r6 : type_of% f_law09_TremorEases_r6.eq_1 := by_rfl f_law09_TremorEases_r6.eq_1
theorem e_law09_TremorEases_r7 : type_of% f_law09_TremorEases_r7.eq_1 := by_rfl f_law09_TremorEases_r7.eq_1
theorem e_law09_TremorEases_r8 : type_of% f_law09_TremorEases_r8.eq_1 := by_rfl f_law09_TremorEases_r8.eq_1
theorem e_law09_TremorEases_r9 : type_of% f_law09_TremorEases_r9.eq_1 := by_rfl f_law09_TremorEases_r9.eq_1
theorem e_law09_TremorEases_r10 : type_of% f_law09_TremorEases_r10.eq_1 := by_rfl f_law09_TremorEases_r10.eq_1
theorem e_law09_TremorEases_r11 : type_of% f_law09_TremorEases_r11.eq_1 := by_rfl f_law09_TremorEases_r11.eq_1
theorem e_law09_TremorEases_r12 : type_of% f_law09_TremorEases_r12.eq_1 := by_rfl f_law09_TremorEases_r12.eq_1
theorem e_law09_TremorEases_r13 : type_of% f_law09_TremorEases_r13.eq_1 := by_rfl f_law09_TremorEases_r13.eq_1
theorem e_law09_TremorEases_r14 : type_of% f_law09_TremorEases_r14.eq_1 := by_rfl f_law09_TremorEases_r14.eq_1
theorem e_law09_TremorEases_r15 : type_of% f_law09_TremorEases_r15.eq_1 := by_rfl f_law09_TremorEases_r15.eq_1
theorem e_law09_TremorEases_l16 : type_of% f_law09_TremorEases_l16.eq_1 := by_rfl f_law09_TremorEases_l16.eq_1
theorem e_law09_TremorEases_r17 : type_of% f_law09_TremorEases_r17.eq_1 := by_rfl f_law09_TremorEases_r17.eq_1
theorem e_law09_TremorEases : type_of% f_law09_TremorEases.eq_1 := by_rfl f_law09_TremorEases.eq_1
theorem ok_law09_TremorEases : fnC Try.prog a_law09_TremorEases Try.f7 = some f_law09_TremorEases := by kernel_rfl

/-! 8 fumarole/fumarolelaw09.TremorLouder -/
def f_law09_TremorLouder_r0 : List Abs.Op := [
  ⟨some 6, none, false, .boxi (.t 0)⟩,
  ⟨some 7, none, false, .boxi (.t 1)⟩,
  ⟨some 8, none, false, .boxi (.t 2)⟩,
  ⟨some 12, none, false, .mv (.c (.bool false))⟩]

def f_law09_TremorLouder_r1 : List Abs.Op := [
  ⟨some 24, none, false, .ld true 12 (.t 6)⟩,
  ⟨some 25, none, false, .call false (.c (.fn i_ref09_Right [] [])) [(.t 24)]⟩,
  ⟨some 26, none, false, .un .not (.t 25)⟩,
  ⟨some 27, none, false, .mv (.t 26)⟩,
  ⟨some 28, some (27, false), false, .ld true 2 (.t 7)⟩,
  ⟨some 29, some (27, false), false, .call false (.c (.fn i_ref09_RightScale [] [])) [(.t 28)]⟩,
  ⟨some 30, some (27, false), false, .un .not (.t 29)⟩,
  ⟨some 31, none, false, .pick (.t 27) (.c (.bool true)) (.t 30)⟩,
  ⟨some 32, none, false, .mv (.t 31)⟩,
  ⟨some 33, some (32, false), false, .ld true 3 (.t 8)⟩,
  ⟨some 34, some (32, false), false, .call false (.c (.fn i_ref09_Dot [] [])) [(.t 33)]⟩,
  ⟨some 35, some (32, false), false, .un .not (.t 34)⟩,
  ⟨some 36, none, false, .pick (.t 32) (.c (.bool true)) (.t 35)⟩,
  ⟨some 37, none, false, .mv (.t 36)⟩,
  ⟨some 38, some (37, false), false, .ld true 12 (.t 6)⟩,
  ⟨some 39, some (37, false), false, .mv (.t 3)⟩,
  ⟨some 40, some (37, false), false, .call false (.c (.fn i_ref09_Readings [] [])) [(.t 38), (.t 39)]⟩,
  ⟨some 41, some (37, false), false, .un .not (.t 40)⟩,
  ⟨some 42, none, false, .pick (.t 37) (.c (.bool true)) (.t 41)⟩]

def f_law09_TremorLouder_r2 : List Abs.Op := [
  ⟨some 43, none, false, .call false (.c (.fn i_law09_awake [] [])) []⟩,
  ⟨some 12, none, false, .mv (.t 43)⟩]

def f_law09_TremorLouder_r3 : List Abs.Op := [
  ⟨some 45, none, true, .ld true 12 (.t 6)⟩,
  ⟨some 46, none, true, .call false (.c (.fn i_law09_Net [] [])) [(.t 45)]⟩,
  ⟨some 47, none, true, .ld true 2 (.t 7)⟩,
  ⟨some 48, none, true, .call false (.c (.fn i_law09_Scale [] [])) [(.t 47)]⟩,
  ⟨some 49, none, true, .ld true 3 (.t 8)⟩,
  ⟨some 50, none, true, .call false (.c (.fn i_law09_Point [] [])) [(.t 49)]⟩,
  ⟨some 51, none, true, .mv (.t 3)⟩,
  ⟨some 52, none, true, .call false (.c (.fn i_law09_Readings [] [])) [(.t 51)]⟩,
  ⟨some 53, none, true, .call false (.c (.fn i_tremor_Magnitude [] [])) [(.t 46), (.t 48), (.t 50), (.t 52)]⟩,
  ⟨some 44, none, true, .mv (.t 53)⟩,
  ⟨some 54, none, true, .ext (.t 44) 0⟩,
  ⟨some 55, none, true, .ext (.t 44) 1⟩,
  ⟨some 13, none, true, .mv (.t 54)⟩,
  ⟨some 14, none, false, .mv (.t 55)⟩]

def f_law09_TremorLouder_r4 : List Abs.Op := [
  ⟨some 56, none, false, .mv (.t 14)⟩,
  ⟨some 57, none, false, .bin .neq (.t 56) (.c (.int .i64 0))⟩]

def f_law09_TremorLouder_r5 : List Abs.Op := [
  ⟨some 12, none, false, .mv (.c (.bool false))⟩]

def f_law09_TremorLouder_r6 : List Abs.Op := [
  ⟨some 15, none, false, .mv (.c (.int .i64 1000))⟩,
  ⟨some 16, none, false, .mv (.c (.int .i64 (-1)))⟩]

def f_law09_TremorLouder_r7 : List Abs.Op := [
  ⟨some 17, none, false, .mv (.c (.int .i64 0))⟩]

def f_law09_TremorLouder_r8 : List Abs.Op := [
  ⟨some 58, none, false, .mv (.t 17)⟩,
  ⟨some 59, none, false, .mv (.t 3)⟩,
  ⟨some 60, none, false, .lenS (.t 59)⟩,
  ⟨some 61, none, false, .bin .lss (.t 58) (.t 60)⟩]

def f_law09_TremorLouder_r9 : List Abs.Op := [
  ⟨some 65, none, true, .ld true 12 (.t 6)⟩,
  ⟨some 66, none, true, .call false (.c (.fn i_law09_Net [] [])) [(.t 65)]⟩,
  ⟨some 67, none, true, .ld true 2 (.t 7)⟩,
  ⟨some 68, none, true, .call false (.c (.fn i_law09_Scale [] [])) [(.t 67)]⟩,
  ⟨some 69, none, true, .ld true 3 (.t 8)⟩,
  ⟨some 70, none, true, .call false (.c (.fn i_law09_Point [] [])) [(.t 69)]⟩,
  ⟨some 71, none, true, .mv (.t 3)⟩,
  ⟨some 72, none, true, .mv (.t 17)⟩,
  ⟨some 73, none, true, .mv (.t 17)⟩,
  ⟨some 74, none, true, .bin .add (.t 73) (.c (.int .i64 1))⟩,
  ⟨some 75, none, true, .slc 2 (.t 71) (some (.t 72)) (some (.t 74)) none⟩,
  ⟨some 76, none, true, .call false (.c (.fn i_law09_Readings [] [])) [(.t 75)]⟩,
  ⟨some 77, none, true, .call false (.c (.fn i_tremor_Magnitude [] [])) [(.t 66), (.t 68), (.t 70), (.t 76)]⟩,
  ⟨some 64, none, true, .mv (.t 77)⟩,
  ⟨some 78, none, true, .ext (.t 64) 0⟩,
  ⟨some 79, none, true, .ext (.t 64) 1⟩,
  ⟨some 18, none, true, .mv (.t 78)⟩,
  ⟨some 19, none, false, .mv (.t 79)⟩]

def f_law09_TremorLouder_r10 : List Abs.Op := [
  ⟨some 80, none, false, .mv (.t 19)⟩,
  ⟨some 81, none, false, .bin .neq (.t 80) (.c (.int .i64 0))⟩]

def f_law09_TremorLouder_r11 : List Abs.Op := [
  ⟨some 12, none, false, .mv (.c (.bool false))⟩]

def f_law09_TremorLouder_r12 : List Abs.Op := [
  ⟨some 82, none, false, .mv (.t 15)⟩,
  ⟨some 83, none, false, .mv (.t 18)⟩,
  ⟨some 84, none, false, .mn (.t 82) (.t 83)⟩,
  ⟨some 85, none, false, .mv (.t 16)⟩,
  ⟨some 86, none, false, .mv (.t 18)⟩,
  ⟨some 87, none, false, .mx (.t 85) (.t 86)⟩,
  ⟨some 15, none, false, .mv (.t 84)⟩,
  ⟨some 16, none, false, .mv (.t 87)⟩]

def f_law09_TremorLouder_r13 : List Abs.Op := [
  ⟨some 62, none, false, .mv (.t 17)⟩,
  ⟨some 63, none, false, .bin .add (.t 62) (.c (.int .i64 1))⟩,
  ⟨some 17, none, false, .mv (.t 63)⟩]

def f_law09_TremorLouder_l14 : Abs.Cmd :=
  (.seq (.seq (.reg [3, 4, 5, 6, 7, 8, 13, 15, 16, 17, 61] f_law09_TremorLouder_r8) (.ite (.t 61) .nop (.exit 0))) (.seq (.blk 1 (.seq (.reg [3, 4, 5, 6, 7, 8, 13, 15, 16, 17, 18, 19] f_law09_TremorLouder_r9) (.seq (.seq (.reg [3, 4, 5, 6, 7, 8, 13, 15, 16, 17, 18, 81] f_law09_TremorLouder_r10) (.ite (.t 81) (.seq (.reg [12] f_law09_TremorLouder_r11) .ret) .nop)) (.reg [3, 4, 5, 6, 7, 8, 13, 15, 16, 17] f_law09_TremorLouder_r12)))) (.reg [3, 4, 5, 6, 7, 8, 13, 15, 16, 17] f_law09_TremorLouder_r13)))

def f_law09_TremorLouder_r15 : List Abs.Op := [
  ⟨some 88, none, false, .mv (.t 3)⟩,
  ⟨some 89, none, false, .app 2 16 (.c .nils) (.t 88)⟩,
  ⟨some 20, none, false, .mv (.t 89)⟩]

def f_law09_TremorLouder_r16 : List Abs.Op := [
  ⟨some 90, none, false, .mv (.t 4)⟩,
  ⟨some 91, none, false, .cvt .i64 (.t 90)⟩,
  ⟨some 92, none, false, .mv (.t 3)⟩,
  ⟨some 93, none, false, .lenS (.t 92)⟩,
  ⟨some 94, none, false, .bin .rem (.t 91) (.t 93)⟩,
  ⟨some 21, none, false, .mv (.t 94)⟩]

def f_law09_TremorLouder_r17 : List Abs.Op := [
  ⟨some 95, none, false, .mv (.t 20)⟩,
  ⟨some 96, none, false, .mv (.t 21)⟩,
  ⟨some 97, none, false, .mv (.t 20)⟩,
  ⟨some 98, none, false, .mv (.t 21)⟩,
  ⟨some 99, none, false, .idxS 2 (.t 97) (.t 98)⟩,
  ⟨some 100, none, false, .fadr 1 (.t 99)⟩,
  ⟨some 101, none, false, .ld false 1 (.t 100)⟩,
  ⟨some 102, none, false, .mv (.t 5)⟩,
  ⟨some 103, none, false, .cvt .i64 (.t 102)⟩,
  ⟨some 104, none, false, .bin .add (.t 101) (.t 103)⟩,
  ⟨some 105, none, false, .mn (.c (.int .i64 1000000000)) (.t 104)⟩,
  ⟨some 106, none, false, .idxS 2 (.t 95) (.t 96)⟩,
  ⟨some 107, none, false, .fadr 1 (.t 106)⟩,
  ⟨none, none, false, .st [] 1 (.t 107) (.t 105)⟩]

def f_law09_TremorLouder_r18 : List Abs.Op := [
  ⟨some 109, none, true, .ld true 12 (.t 6)⟩,
  ⟨some 110, none, true, .call false (.c (.fn i_law09_Net [] [])) [(.t 109)]⟩,
  ⟨some 111, none, true, .ld true 2 (.t 7)⟩,
  ⟨some 112, none, true, .call false (.c (.fn i_law09_Scale [] [])) [(.t 111)]⟩,
  ⟨some 113, none, true, .ld true 3 (.t 8)⟩,
  ⟨some 114, none, true, .call false (.c (.fn i_law09_Point [] [])) [(.t 113)]⟩,
  ⟨some 115, none, true, .mv (.t 20)⟩,
  ⟨some 116, none, true, .call false (.c (.fn i_law09_Readings [] [])) [(.t 115)]⟩,
  ⟨some 117, none, true, .call false (.c (.fn i_tremor_Magnitude [] [])) [(.t 110), (.t 112), (.t 114), (.t 116)]⟩,
  ⟨some 108, none, true, .mv (.t 117)⟩,
  ⟨some 118, none, true, .ext (.t 108) 0⟩,
  ⟨some 119, none, true, .ext (.t 108) 1⟩,
  ⟨some 22, none, true, .mv (.t 118)⟩,
  ⟨some 23, none, false, .mv (.t 119)⟩]

def f_law09_TremorLouder_r19 : List Abs.Op := [
  ⟨some 120, none, false, .mv (.t 23)⟩,
  ⟨some 121, none, false, .bin .eql (.t 120) (.c (.int .i64 0))⟩,
  ⟨some 122, none, false, .mv (.t 121)⟩,
  ⟨some 123, some (122, true), false, .mv (.t 15)⟩,
  ⟨some 124, some (122, true), false, .mv (.t 13)⟩,
  ⟨some 125, some (122, true), false, .bin .leq (.t 123) (.t 124)⟩,
  ⟨some 126, none, false, .pick (.t 122) (.t 125) (.c (.bool false))⟩,
  ⟨some 127, none, false, .mv (.t 126)⟩,
  ⟨some 128, some (127, true), false, .mv (.t 13)⟩,
  ⟨some 129, some (127, true), false, .mv (.t 16)⟩,
  ⟨some 130, some (127, true), false, .bin .leq (.t 128) (.t 129)⟩,
  ⟨some 131, none, false, .pick (.t 127) (.t 130) (.c (.bool false))⟩,
  ⟨some 132, none, false, .mv (.t 131)⟩,
  ⟨some 133, some (132, true), false, .mv (.t 22)⟩,
  ⟨some 134, some (132, true), false, .mv (.t 13)⟩,
  ⟨some 135, some (132, true), false, .bin .geq (.t 133) (.t 134)⟩,
  ⟨some 136, none, false, .pick (.t 132) (.t 135) (.c (.bool false))⟩,
  ⟨some 137, none, false, .mv (.t 136)⟩,
  ⟨some 138, some (137, true), false, .call false (.c (.fn i_law09_awake [] [])) []⟩,
  ⟨some 139, none, false, .pick (.t 137) (.t 138) (.c (.bool false))⟩,
  ⟨some 12, none, false, .mv (.t 139)⟩]

def a_law09_TremorLouder : Ann := ⟨[(18, [12]), (17, [13, 15, 16, 22, 23]), (16, [6, 7, 8, 13, 15, 16, 20]), (15, [5, 6, 7, 8, 13, 15, 16, 20, 21]), (14, [3, 4, 5, 6, 7, 8, 13, 15, 16, 20]), (9, [3, 4, 5, 6, 7, 8, 13, 15, 16, 17]), (13, [3, 4, 5, 6, 7, 8, 13, 15, 16, 17]), (12, [12]), (11, [3, 4, 5, 6, 7, 8, 13, 15, 16, 17, 18, 81]), (10, [3, 4, 5, 6, 7, 8, 13, 15, 16, 17, 18, 19]), (8, [3, 4, 5, 6, 7, 8, 13, 15, 16, 17, 61]), (7, [3, 4, 5, 6, 7, 8, 13, 15, 16, 17]), (6, [3, 4, 5, 6, 7, 8, 13, 15, 16]), (5, [12]), (4, [3, 4, 5, 6, 7, 8, 13, 57]), (3, [3, 4, 5, 6, 7, 8, 13, 14]), (2, [12]), (1, [3, 4, 5, 6, 7, 8, 42]), (0, [3, 4, 5, 6, 7, 8])], [(0, [3, 4, 5, 6, 7, 8, 13, 15, 16, 17])], [], [89], [], [], [], [(17, [20])]⟩
def f_law09_TremorLouder : Abs.Fn := ⟨6, [.t 12],
  (.seq (.reg [3, 4, 5, 6, 7, 8] f_law09_TremorLouder_r0) (.seq (.seq (.reg [3, 4, 5, 6, 7, 8, 42] f_law09_TremorLouder_r1) (.ite (.t 42) (.seq (.reg [12] f_law09_TremorLouder_r2) .ret) .nop)) (.seq (.reg [3, 4, 5, 6, 7, 8, 13, 14] f_law09_TremorLouder_r3) (.seq (.seq (.reg [3, 4, 5, 6, 7, 8, 13, 57] f_law09_TremorLouder_r4) (.ite (.t 57) (.seq (.reg [12] f_law09_TremorLouder_r5) .ret) .nop)) (.seq (.reg [3, 4, 5, 6, 7, 8, 13, 15, 16] f_law09_TremorLouder_r6) (.seq (.seq (.reg [3, 4, 5, 6, 7, 8, 13, 15, 16, 17] f_law09_TremorLouder_r7) (.blk 0 (.loop [3, 4, 5, 6, 7, 8, 13, 15, 16, 17] false f_law09_TremorLouder_l14))) (.seq (.reg [3, 4, 5, 6, 7, 8, 13, 15, 16, 20] f_law09_TremorLouder_r15) (.seq (.reg [5, 6, 7, 8, 13, 15, 16, 20, 21] f_law09_TremorLouder_r16) (.seq (.reg [6, 7, 8, 13, 15, 16, 20] f_law09_TremorLouder_r17) (.seq (.seq (.frz [20]) (.reg [13, 15, 16, 22, 23] f_law09_TremorLouder_r18)) (.seq (.reg [12] f_law09_TremorLouder_r19) .ret)))))))))))⟩

theorem e_law09_TremorLouder_r0 : type_of% f_law09_TremorLouder_r0.eq_1 := by_rfl f_law09_TremorLouder_r0.eq_1
theorem e_law09_TremorLouder_r1 : type_of% f_law09_TremorLouder_r1.eq_1 := by_rfl f_law09_TremorLouder_r1.eq_1
theorem e_law09_TremorLouder_r2 : type_of% f_law09_TremorLouder_r2.eq_1 := by_rfl f_law09_TremorLouder_r2.eq_1
theorem e_law09_TremorLouder_r3 : type_of% f_law09_TremorLouder_r3.eq_1 := by_rfl f_law09_TremorLouder_r3.eq_1
theorem e_law09_TremorLouder_r4 : type_of% f_law09_TremorLouder_r4.eq_1 := by_rfl f_law09_TremorLouder_r4.eq_1
theorem e_law09_TremorLouder_r5 : type_of% f_law09_TremorLouder_r5.eq_1 := by_rfl f_law09_TremorLouder_r5.eq_1
theorem e_law09_TremorLouder_r6 : type_of% f_law09_TremorLouder_r6.eq_1 := by_rfl f_law09_TremorLouder_r6.eq_1
theorem e_law09_TremorLouder_r7 : type_of% f_law09_TremorLouder_r7.eq_1 := by_rfl f_law09_TremorLouder_r7.eq_1
theorem e_law09_TremorLouder_r8 : type_of% f_law09_TremorLouder_r8.eq_1 := by_rfl f_law09_TremorLouder_r8.eq_1
theorem e_law09_TremorLouder_r9 : type_of% f_law09_TremorLouder_r9.eq_1 := by_rfl f_law09_TremorLouder_r9.eq_1
theorem e_law09_TremorLouder_r10 : type_of% f_law09_TremorLouder_r10.eq_1 := by_rfl f_law09_TremorLouder_r10.eq_1
theorem e_law09_TremorLouder_r11 : type_of% f_law09_TremorLouder_r11.eq_1 := by_rfl f_law09_TremorLouder_r11.eq_1
theorem e_law09_TremorLouder_r12 : type_of% f_law09_TremorLouder_r12.eq_1 := by_rfl f_law09_TremorLouder_r12.eq_1
theorem e_law09_TremorLouder_r13 : type_of% f_law09_TremorLouder_r13.eq_1 := by_rfl f_law09_TremorLouder_r13.eq_1
theorem e_law09_TremorLouder_l14 : type_of% f_law09_TremorLouder_l14.eq_1 := by_rfl f_law09_TremorLouder_l14.eq_1
theorem e_law09_TremorLouder_r15 : type_of% f_law09_TremorLouder_r15.eq_1 := by_rfl f_law09_TremorLouder_r15.eq_1
theorem e_law09_TremorLouder_r16 : type_of% f_law09_TremorLouder_r16.eq_1 := by_rfl f_law09_TremorLouder_r16.eq_1
theorem e_law09_TremorLouder_r17 : type_of% f_law09_TremorLouder_r17.eq_1 := by_rfl f_law09_TremorLouder_r17.eq_1
theorem e_law09_TremorLouder_r18 : type_of% f_law09_TremorLouder_r18.eq_1 := by_rfl f_law09_TremorLouder_r18.eq_1
theorem e_law09_TremorLouder_r19 : type_of% f_law09_TremorLouder_r19.eq_1 := by_rfl f_law09_TremorLouder_r19.eq_1
theorem e_law09_TremorLouder : type_of% f_law09_TremorLouder.eq_1 := by_rfl f_law09_TremorLouder.eq_1
theorem ok_law09_TremorLouder : fnC Try.prog a_law09_TremorLouder Try.f8 = some f_law09_TremorLouder := by kernel_rfl

/-! 9 fumarole/fumarolelaw09.TremorTravels -/
def f_law09_TremorTravels_r0 : List Abs.Op := [
  ⟨some 4, none, false, .boxi (.t 0)⟩,
  ⟨some 7, none, false, .boxi (.t 3)⟩,
  ⟨some 8, none, false, .mv (.c (.bool false))⟩]

def f_law09_TremorTravels_r1 : List Abs.Op := [
  ⟨some 12, none, false, .ld true 12 (.t 4)⟩,
  ⟨some 13, none, false, .call false (.c (.fn i_law09_few [] [])) [(.t 12), (.c .nils)]⟩,
  ⟨some 14, none, false, .un .not (.t 13)⟩]

def f_law09_TremorTravels_r2 : List Abs.Op := [
  ⟨some 15, none, false, .call false (.c (.fn i_law09_awake [] [])) []⟩,
  ⟨some 8, none, false, .mv (.t 15)⟩]

def f_law09_TremorTravels_r3 : List Abs.Op := [
  ⟨some 17, none, true, .ld true 12 (.t 4)⟩,
  ⟨some 18, none, true, .call false (.c (.fn i_law09_Net [] [])) [(.t 17)]⟩,
  ⟨some 19, none, true, .mv (.t 1)⟩,
  ⟨some 20, none, true, .mv (.t 2)⟩,
  ⟨some 21, none, true, .ld true 3 (.t 7)⟩,
  ⟨some 22, none, true, .call false (.c (.fn i_law09_Point [] [])) [(.t 21)]⟩,
  ⟨some 23, none, true, .call false (.c (.fn i_tremor_Travel [] [])) [(.t 18), (.t 19), (.t 20), (.t 22)]⟩,
  ⟨some 16, none, true, .mv (.t 23)⟩,
  ⟨some 24, none, true, .ext (.t 16) 0⟩,
  ⟨some 25, none, true, .ext (.t 16) 1⟩,
  ⟨some 9, none, true, .alcv [] [(.int .i64 0), (.int .i64 0)]⟩,
  ⟨none, none, true, .stv 9 [] 2 9 (.t 24)⟩,
  ⟨some 10, none, false, .mv (.t 25)⟩]

def f_law09_TremorTravels_r4 : List Abs.Op := [
  ⟨some 26, none, false, .ld true 12 (.t 4)⟩,
  ⟨some 27, none, false, .call false (.c (.fn i_ref09_Right [] [])) [(.t 26)]⟩,
  ⟨some 28, none, false, .un .not (.t 27)⟩]

def f_law09_TremorTravels_r5 : List Abs.Op := [
  ⟨some 29, none, false, .ld true 12 (.t 4)⟩,
  ⟨some 30, none, false, .call false (.c (.fn i_law09_Net [] [])) [(.t 29)]⟩,
  ⟨some 31, none, false, .call false (.c (.fn i_tremor_CheckNet [] [])) [(.t 30)]⟩,
  ⟨some 32, none, false, .bin .eql (.t 31) (.c (.int .i64 1))⟩,
  ⟨some 33, none, false, .mv (.t 32)⟩,
  ⟨some 34, some (33, true), false, .mv (.t 10)⟩,
  ⟨some 35, some (33, true), false, .bin .eql (.t 34) (.c (.int .i64 1))⟩,
  ⟨some 36, none, false, .pick (.t 33) (.t 35) (.c (.bool false))⟩,
  ⟨some 37, none, false, .mv (.t 36)⟩,
  ⟨some 38, some (37, true), false, .ldv 9 true 2 9⟩,
  ⟨some 39, some (37, true), false, .bld [(.int .i64 0), (.int .i64 0)] []⟩,
  ⟨some 40, some (37, true), false, .eqv true [some .i64, some .i64] false (.t 38) (.t 39)⟩,
  ⟨some 41, none, false, .pick (.t 37) (.t 40) (.c (.bool false))⟩,
  ⟨some 42, none, false, .mv (.t 41)⟩,
  ⟨some 43, some (42, true), false, .call false (.c (.fn i_law09_awake [] [])) []⟩,
  ⟨some 44, none, false, .pick (.t 42) (.t 43) (.c (.bool false))⟩,
  ⟨some 8, none, false, .mv (.t 44)⟩]

def f_law09_TremorTravels_r6 : List Abs.Op := [
  ⟨some 45, none, false, .ld true 12 (.t 4)⟩,
  ⟨some 46, none, false, .call false (.c (.fn i_law09_Net [] [])) [(.t 45)]⟩,
  ⟨some 47, none, false, .call false (.c (.fn i_tremor_CheckNet [] [])) [(.t 46)]⟩,
  ⟨some 48, none, false, .bin .neq (.t 47) (.c (.int .i64 0))⟩]

def f_law09_TremorTravels_r7 : List Abs.Op := [
  ⟨some 8, none, false, .mv (.c (.bool false))⟩]

def f_law09_TremorTravels_r8 : List Abs.Op := [
  ⟨some 11, none, false, .mv (.c (.int .i64 0))⟩]

def f_law09_TremorTravels_r9 : List Abs.Op := [
  ⟨some 49, none, false, .mv (.t 1)⟩,
  ⟨some 50, none, false, .fadr 0 (.t 4)⟩,
  ⟨some 51, none, false, .ld false 1 (.t 50)⟩,
  ⟨some 52, none, false, .lenS (.t 51)⟩,
  ⟨some 53, none, false, .bin .sub (.t 52) (.c (.int .i64 1))⟩,
  ⟨some 54, none, false, .call false (.c (.fn i_ref09_In [] [])) [(.t 49), (.c (.int .i64 0)), (.t 53)]⟩,
  ⟨some 55, none, false, .un .not (.t 54)⟩,
  ⟨some 56, none, false, .mv (.t 55)⟩,
  ⟨some 57, some (56, false), false, .mv (.t 2)⟩,
  ⟨some 58, some (56, false), false, .bin .gtr (.t 57) (.c (.int .u8 1))⟩,
  ⟨some 59, none, false, .pick (.t 56) (.c (.bool true)) (.t 58)⟩]

def f_law09_TremorTravels_r10 : List Abs.Op := [
  ⟨some 11, none, false, .mv (.c (.int .i64 2))⟩]

def f_law09_TremorTravels_r11 : List Abs.Op := [
  ⟨some 60, none, false, .ld true 3 (.t 7)⟩,
  ⟨some 61, none, false, .call false (.c (.fn i_ref09_Dot [] [])) [(.t 60)]⟩,
  ⟨some 62, none, false, .un .not (.t 61)⟩]

def f_law09_TremorTravels_r12 : List Abs.Op := [
  ⟨some 11, none, false, .mv (.c (.int .i64 1))⟩]

def f_law09_TremorTravels_r13 : List Abs.Op := [
  ⟨some 63, none, false, .mv (.t 11)⟩,
  ⟨some 64, none, false, .bin .neq (.t 63) (.c (.int .i64 0))⟩]

def f_law09_TremorTravels_r14 : List Abs.Op := [
  ⟨some 65, none, false, .mv (.t 10)⟩,
  ⟨some 66, none, false, .mv (.t 11)⟩,
  ⟨some 67, none, false, .bin .eql (.t 65) (.t 66)⟩,
  ⟨some 68, none, false, .mv (.t 67)⟩,
  ⟨some 69, some (68, true), false, .ldv 9 true 2 9⟩,
  ⟨some 70, some (68, true), false, .bld [(.int .i64 0), (.int .i64 0)] []⟩,
  ⟨some 71, some (68, true), false, .eqv true [some .i64, some .i64] false (.t 69) (.t 70)⟩,
  ⟨some 72, none, false, .pick (.t 68) (.t 71) (.c (.bool false))⟩,
  ⟨some 73, none, false, .mv (.t 72)⟩,
  ⟨some 74, some (73, true), false, .call false (.c (.fn i_law09_awake [] [])) []⟩,
  ⟨some 75, none, false, .pick (.t 73) (.t 74) (.c (.bool false))⟩,
  ⟨some 8, none, false, .mv (.t 75)⟩]

def f_law09_TremorTravels_r15 : List Abs.Op := [
  ⟨some 76, none, true, .mv (.t 10)⟩,
  ⟨some 77, none, true, .bin .eql (.t 76) (.c (.int .i64 0))⟩,
  ⟨some 78, none, true, .mv (.t 77)⟩,
  ⟨some 79, some (78, true), true, .ldv 9 true 2 9⟩,
  ⟨some 80, some (78, true), true, .ld true 12 (.t 4)⟩,
  ⟨some 81, some (78, true), true, .mv (.t 1)⟩,
  ⟨some 82, some (78, true), true, .mv (.t 2)⟩,
  ⟨some 83, some (78, true), true, .ld true 3 (.t 7)⟩,
  ⟨some 84, some (78, true), true, .call false (.c (.fn i_ref09_Travel [] [])) [(.t 80), (.t 81), (.t 82), (.t 83)]⟩,
  ⟨some 85, some (78, true), true, .call false (.c (.fn i_law09_Range [] [])) [(.t 84)]⟩,
  ⟨some 86, some (78, true), false, .eqv true [some .i64, some .i64] false (.t 79) (.t 85)⟩,
  ⟨some 87, none, false, .pick (.t 78) (.t 86) (.c (.bool false))⟩,
  ⟨some 88, none, false, .mv (.t 87)⟩,
  ⟨some 89, some (88, true), false, .call false (.c (.fn i_law09_awake [] [])) []⟩,
  ⟨some 90, none, false, .pick (.t 88) (.t 89) (.c (.bool false))⟩,
  ⟨some 8, none, false, .mv (.t 90)⟩]

def a_law09_TremorTravels : Ann := ⟨[(15, [8]), (14, [8]), (13, [1, 2, 4, 7, 9, 10, 11, 64]), (10, [1, 2, 4, 7, 9, 10, 11]), (12, [1, 2, 4, 7, 9, 10, 11]), (11, [1, 2, 4, 7, 9, 10, 11, 62]), (9, [1, 2, 4, 7, 9, 10, 11, 59]), (8, [1, 2, 4, 7, 9, 10, 11]), (7, [8]), (6, [1, 2, 4, 7, 9, 10, 48]), (5, [8]), (4, [1, 2, 4, 7, 9, 10, 28]), (3, [1, 2, 4, 7, 9, 10]), (2, [8]), (1, [1, 2, 4, 7, 14]), (0, [1, 2, 4, 7])], [], [], [9], [9], [], [], []⟩
def f_law09_TremorTravels : Abs.Fn := ⟨4, [.t 8],
  (.seq (.reg [1, 2, 4, 7] f_law09_TremorTravels_r0) (.seq (.seq (.reg [1, 2, 4, 7, 14] f_law09_TremorTravels_r1) (.ite (.t 14) (.seq (.reg [8] f_law09_TremorTravels_r2) .ret) .nop)) (.seq (.reg [1, 2, 4, 7, 9, 10] f_law09_TremorTravels_r3) (.seq (.seq (.reg [1, 2, 4, 7, 9, 10, 28] f_law09_TremorTravels_r4) (.ite (.t 28) (.seq (.reg [8] f_law09_TremorTravels_r5) .ret) .nop)) (.seq (.seq (.reg [1, 2, 4, 7, 9, 10, 48] f_law09_TremorTravels_r6) (.ite (.t 48) (.seq (.reg [8] f_law09_TremorTravels_r7) .ret) .nop)) (.seq (.reg [1, 2, 4, 7, 9, 10, 11] f_law09_TremorTravels_r8) (.seq (.seq (.reg [1, 2, 4, 7, 9, 10, 11, 59] f_law09_TremorTravels_r9) (.ite (.t 59) (.reg [1, 2, 4, 7, 9, 10, 11] f_law09_TremorTravels_r10) (.seq (.reg [1, 2, 4, 7, 9, 10, 11, 62] f_law09_TremorTravels_r11) (.ite (.t 62) (.reg [1, 2, 4, 7, 9, 10, 11] f_law09_TremorTravels_r12) .nop)))) (.seq (.seq (.reg [1, 2, 4, 7, 9, 10, 11, 64] f_law09_TremorTravels_r13) (.ite (.t 64) (.seq (.reg [8] f_law09_TremorTravels_r14) .ret) .nop)) (.seq (.reg [8] f_law09_TremorTravels_r15) .ret)))))))))⟩

theorem e_law09_TremorTravels_r0 : type_of% f_law09_TremorTravels_r0.eq_1 := by_rfl f_law09_TremorTravels_r0.eq_1
theorem e_law09_TremorTravels_r1 : type_of% f_law09_TremorTravels_r1.eq_1 := by_rfl f_law09_TremorTravels_r1.eq_1
theorem e_law09_TremorTravels_r2 : type_of% f_law09_TremorTravels_r2.eq_1 := by_rfl f_law09_TremorTravels_r2.eq_1
theorem e_law09_TremorTravels_r3 : type_of% f_law09_TremorTravels_r3.eq_1 := by_rfl f_law09_TremorTravels_r3.eq_1
theorem e_law09_TremorTravels_r4 : type_of% f_law09_TremorTravels_r4.eq_1 := by_rfl f_law09_TremorTravels_r4.eq_1
theorem e_law09_TremorTravels_r5 : type_of% f_law09_TremorTravels_r5.eq_1 := by_rfl f_law09_TremorTravels_r5.eq_1
theorem e_law09_TremorTravels_r6 : type_of% f_law09_TremorTravels_r6.eq_1 := by_rfl f_law09_TremorTravels_r6.eq_1
theorem e_law09_TremorTravels_r7 : type_of% f_law09_TremorTravels_r7.eq_1 := by_rfl f_law09_TremorTravels_r7.eq_1
theorem e_law09_TremorTravels_r8 : type_of% f_law09_TremorTravels_r8.eq_1 := by_rfl f_law09_TremorTravels_r8.eq_1
theorem e_law09_TremorTravels_r9 : type_of% f_law09_TremorTravels_r9.eq_1 := by_rfl f_law09_TremorTravels_r9.eq_1
theorem e_law09_TremorTravels_r10 : type_of% f_law09_TremorTravels_r10.eq_1 := by_rfl f_law09_TremorTravels_r10.eq_1
theorem e_law09_TremorTravels_r11 : type_of% f_law09_TremorTravels_r11.eq_1 := by_rfl f_law09_TremorTravels_r11.eq_1
theorem e_law09_TremorTravels_r12 : type_of% f_law09_TremorTravels_r12.eq_1 := by_rfl f_law09_TremorTravels_r12.eq_1
theorem e_law09_TremorTravels_r13 : type_of% f_law09_TremorTravels_r13.eq_1 := by_rfl f_law09_TremorTravels_r13.eq_1
theorem e_law09_TremorTravels_r14 : type_of% f_law09_TremorTravels_r14.eq_1 := by_rfl f_law09_TremorTravels_r14.eq_1
theorem e_law09_TremorTravels_r15 : type_of% f_law09_TremorTravels_r15.eq_1 := by_rfl f_law09_TremorTravels_r15.eq_1
theorem e_law09_TremorTravels : type_of% f_law09_TremorTravels.eq_1 := by_rfl f_law09_TremorTravels.eq_1
theorem ok_law09_TremorTravels : fnC Try.prog a_law09_TremorTravels Try.f9 = some f_law09_TremorTravels := by kernel_rfl

/-! 10 fumarole/fumarolelaw09.TremorBets -/
def f_law09_TremorBets_r0 : List Abs.Op := [
  ⟨some 2, none, false, .boxi (.t 0)⟩,
  ⟨some 4, none, false, .mv (.c (.bool false))⟩]

def f_law09_TremorBets_r1 : List Abs.Op := [
  ⟨some 12, none, false, .mv (.t 1)⟩,
  ⟨some 13, none, false, .lenS (.t 12)⟩,
  ⟨some 14, none, false, .bin .gtr (.t 13) (.c (.int .i64 100))⟩,
  ⟨some 15, none, false, .mv (.t 14)⟩,
  ⟨some 16, some (15, true), false, .mv (.t 1)⟩,
  ⟨some 17, some (15, true), false, .lenS (.t 16)⟩,
  ⟨some 18, some (15, true), false, .bin .leq (.t 17) (.c (.int .i64 2000))⟩,
  ⟨some 19, none, false, .pick (.t 15) (.t 18) (.c (.bool false))⟩,
  ⟨some 20, none, false, .mv (.t 19)⟩,
  ⟨some 21, some (20, false), false, .mv (.t 1)⟩,
  ⟨some 22, some (20, false), false, .lenS (.t 21)⟩,
  ⟨some 23, some (20, false), false, .bin .gtr (.t 22) (.c (.int .i64 2002))⟩,
  ⟨some 24, none, false, .pick (.t 20) (.c (.bool true)) (.t 23)⟩]

def f_law09_TremorBets_r2 : List Abs.Op := [
  ⟨some 25, none, false, .call false (.c (.fn i_law09_awake [] [])) []⟩,
  ⟨some 4, none, false, .mv (.t 25)⟩]

def f_law09_TremorBets_r3 : List Abs.Op := [
  ⟨some 27, none, false, .ld true 5 (.t 2)⟩,
  ⟨some 28, none, false, .call false (.c (.fn i_law09_Bet [] [])) [(.t 27)]⟩,
  ⟨some 29, none, false, .mv (.t 1)⟩,
  ⟨some 30, none, false, .cpi 1 1 (.t 29)⟩,
  ⟨some 31, none, false, .call false (.c (.fn i_tremor_Capital [] [])) [(.t 28), (.t 30)]⟩,
  ⟨some 26, none, false, .mv (.t 31)⟩,
  ⟨some 32, none, false, .ext (.t 26) 0⟩,
  ⟨some 33, none, false, .ext (.t 26) 1⟩,
  ⟨some 5, none, false, .mv (.t 32)⟩,
  ⟨some 6, none, false, .mv (.t 33)⟩]

def f_law09_TremorBets_r4 : List Abs.Op := [
  ⟨some 35, none, false, .ld true 5 (.t 2)⟩,
  ⟨some 36, none, false, .call false (.c (.fn i_law09_Bet [] [])) [(.t 35)]⟩,
  ⟨some 37, none, false, .mv (.t 1)⟩,
  ⟨some 38, none, false, .cpi 1 1 (.t 37)⟩,
  ⟨some 39, none, false, .call false (.c (.fn i_tremor_Won [] [])) [(.t 36), (.t 38)]⟩,
  ⟨some 34, none, false, .mv (.t 39)⟩,
  ⟨some 40, none, false, .ext (.t 34) 0⟩,
  ⟨some 41, none, false, .ext (.t 34) 1⟩,
  ⟨some 7, none, false, .mv (.t 40)⟩,
  ⟨some 8, none, false, .mv (.t 41)⟩]

def f_law09_TremorBets_r5 : List Abs.Op := [
  ⟨some 9, none, false, .mv (.c (.int .i64 0))⟩]

def f_law09_TremorBets_r6 : List Abs.Op := [
  ⟨some 42, none, false, .ld true 5 (.t 2)⟩,
  ⟨some 43, none, false, .call false (.c (.fn i_ref09_RightBet [] [])) [(.t 42)]⟩,
  ⟨some 44, none, false, .un .not (.t 43)⟩]

def f_law09_TremorBets_r7 : List Abs.Op := [
  ⟨some 9, none, false, .mv (.c (.int .i64 1))⟩]

def f_law09_TremorBets_r8 : List Abs.Op := [
  ⟨some 45, none, false, .mv (.t 1)⟩,
  ⟨some 46, none, false, .lenS (.t 45)⟩,
  ⟨some 47, none, false, .bin .gtr (.t 46) (.c (.int .i64 2000))⟩]

def f_law09_TremorBets_r9 : List Abs.Op := [
  ⟨some 9, none, false, .mv (.c (.int .i64 3))⟩]

def f_law09_TremorBets_r10 : List Abs.Op := [
  ⟨some 48, none, false, .mv (.t 9)⟩,
  ⟨some 49, none, false, .bin .neq (.t 48) (.c (.int .i64 0))⟩]

def f_law09_TremorBets_r11 : List Abs.Op := [
  ⟨some 50, none, false, .mv (.t 6)⟩,
  ⟨some 51, none, false, .mv (.t 9)⟩,
  ⟨some 52, none, false, .bin .eql (.t 50) (.t 51)⟩,
  ⟨some 53, none, false, .mv (.t 52)⟩,
  ⟨some 54, some (53, true), false, .mv (.t 8)⟩,
  ⟨some 55, some (53, true), false, .mv (.t 9)⟩,
  ⟨some 56, some (53, true), false, .bin .eql (.t 54) (.t 55)⟩,
  ⟨some 57, none, false, .pick (.t 53) (.t 56) (.c (.bool false))⟩,
  ⟨some 58, none, false, .mv (.t 57)⟩,
  ⟨some 59, some (58, true), false, .mv (.t 5)⟩,
  ⟨some 60, some (58, true), false, .lenS (.t 59)⟩,
  ⟨some 61, some (58, true), false, .bin .eql (.t 60) (.c (.int .i64 0))⟩,
  ⟨some 62, none, false, .pick (.t 58) (.t 61) (.c (.bool false))⟩,
  ⟨some 63, none, false, .mv (.t 62)⟩,
  ⟨some 64, some (63, true), false, .mv (.t 7)⟩,
  ⟨some 65, some (63, true), false, .bin .eql (.t 64) (.c (.int .i64 0))⟩,
  ⟨some 66, none, false, .pick (.t 63) (.t 65) (.c (.bool false))⟩,
  ⟨some 67, none, false, .mv (.t 66)⟩,
  ⟨some 68, some (67, true), false, .call false (.c (.fn i_law09_awake [] [])) []⟩,
  ⟨some 69, none, false, .pick (.t 67) (.t 68) (.c (.bool false))⟩,
  ⟨some 4, none, false, .mv (.t 69)⟩]

def f_law09_TremorBets_r12 : List Abs.Op := [
  ⟨some 70, none, false, .ld true 5 (.t 2)⟩,
  ⟨some 71, none, false, .mv (.t 1)⟩,
  ⟨some 72, none, false, .call false (.c (.fn i_ref09_Capital [] [])) [(.t 70), (.t 71)]⟩,
  ⟨some 10, none, false, .mv (.t 72)⟩]

def f_law09_TremorBets_r13 : List Abs.Op := [
  ⟨some 73, none, false, .mv (.t 6)⟩,
  ⟨some 74, none, false, .bin .neq (.t 73) (.c (.int .i64 0))⟩,
  ⟨some 75, none, false, .mv (.t 74)⟩,
  ⟨some 76, some (75, false), false, .mv (.t 5)⟩,
  ⟨some 77, some (75, false), false, .mv (.t 10)⟩,
  ⟨some 78, some (75, false), false, .call false (.c (.fn i_law09_ints [] [])) [(.t 76), (.t 77)]⟩,
  ⟨some 79, some (75, false), false, .un .not (.t 78)⟩,
  ⟨some 80, none, false, .pick (.t 75) (.c (.bool true)) (.t 79)⟩]

def f_law09_TremorBets_r14 : List Abs.Op := [
  ⟨some 4, none, false, .mv (.c (.bool false))⟩]

def f_law09_TremorBets_r15 : List Abs.Op := [
  ⟨some 11, none, false, .mv (.c (.int .i64 0))⟩]

def f_law09_TremorBets_r16 : List Abs.Op := [
  ⟨some 81, none, false, .mv (.t 11)⟩,
  ⟨some 82, none, false, .mv (.t 10)⟩,
  ⟨some 83, none, false, .lenS (.t 82)⟩,
  ⟨some 84, none, false, .bin .lss (.t 81) (.t 83)⟩]

def f_law09_TremorBets_r17 : List Abs.Op := [
  ⟨some 87, none, true, .mv (.t 10)⟩,
  ⟨some 88, none, true, .mv (.t 11)⟩,
  ⟨some 89, none, true, .idxS 1 (.t 87) (.t 88)⟩,
  ⟨some 90, none, true, .ld false 1 (.t 89)⟩,
  ⟨some 91, none, true, .fadr 4 (.t 2)⟩,
  ⟨some 92, none, true, .ld false 1 (.t 91)⟩,
  ⟨some 93, none, true, .bin .mul (.c (.int .i64 1000000)) (.t 92)⟩,
  ⟨some 94, none, false, .bin .geq (.t 90) (.t 93)⟩]

def f_law09_TremorBets_r18 : List Abs.Op := [
  ⟨some 95, none, false, .mv (.t 8)⟩,
  ⟨some 96, none, false, .bin .eql (.t 95) (.c (.int .i64 0))⟩,
  ⟨some 97, none, false, .mv (.t 96)⟩,
  ⟨some 98, some (97, true), false, .mv (.t 7)⟩,
  ⟨some 99, some (97, true), false, .mv (.t 11)⟩,
  ⟨some 100, some (97, true), false, .bin .eql (.t 98) (.t 99)⟩,
  ⟨some 101, none, false, .pick (.t 97) (.t 100) (.c (.bool false))⟩,
  ⟨some 102, none, false, .mv (.t 101)⟩,
  ⟨some 103, some (102, true), false, .call false (.c (.fn i_law09_awake [] [])) []⟩,
  ⟨some 104, none, false, .pick (.t 102) (.t 103) (.c (.bool false))⟩,
  ⟨some 4, none, false, .mv (.t 104)⟩]

def f_law09_TremorBets_r19 : List Abs.Op := [
  ⟨some 85, none, false, .mv (.t 11)⟩,
  ⟨some 86, none, false, .bin .add (.t 85) (.c (.int .i64 1))⟩,
  ⟨some 11, none, false, .mv (.t 86)⟩]

def f_law09_TremorBets_l20 : Abs.Cmd :=
  (.seq (.seq (.reg [2, 7, 8, 10, 11, 84] f_law09_TremorBets_r16) (.ite (.t 84) .nop (.exit 0))) (.seq (.blk 1 (.seq (.reg [2, 7, 8, 10, 11, 94] f_law09_TremorBets_r17) (.ite (.t 94) (.seq (.reg [4] f_law09_TremorBets_r18) .ret) .nop))) (.reg [2, 7, 8, 10, 11] f_law09_TremorBets_r19)))

def f_law09_TremorBets_r21 : List Abs.Op := [
  ⟨some 105, none, false, .mv (.t 8)⟩,
  ⟨some 106, none, false, .bin .eql (.t 105) (.c (.int .i64 7))⟩,
  ⟨some 107, none, false, .mv (.t 106)⟩,
  ⟨some 108, some (107, true), false, .mv (.t 7)⟩,
  ⟨some 109, some (107, true), false, .bin .eql (.t 108) (.c (.int .i64 0))⟩,
  ⟨some 110, none, false, .pick (.t 107) (.t 109) (.c (.bool false))⟩,
  ⟨some 111, none, false, .mv (.t 110)⟩,
  ⟨some 112, some (111, true), false, .call false (.c (.fn i_law09_awake [] [])) []⟩,
  ⟨some 113, none, false, .pick (.t 111) (.t 112) (.c (.bool false))⟩,
  ⟨some 4, none, false, .mv (.t 113)⟩]

def a_law09_TremorBets : Ann := ⟨[(20, [4]), (17, [2, 7, 8, 10, 11]), (19, [4]), (18, [2, 7, 8, 10, 11, 94]), (16, [2, 7, 8, 10, 11, 84]), (15, [2, 7, 8, 10, 11]), (14, [4]), (13, [2, 7, 8, 10, 80]), (12, [2, 5, 6, 7, 8, 10]), (11, [4]), (10, [1, 2, 5, 6, 7, 8, 9, 49]), (7, [1, 2, 5, 6, 7, 8, 9]), (9, [1, 2, 5, 6, 7, 8, 9]), (8, [1, 2, 5, 6, 7, 8, 9, 47]), (6, [1, 2, 5, 6, 7, 8, 9, 44]), (5, [1, 2, 5, 6, 7, 8, 9]), (4, [1, 2, 5, 6, 7, 8]), (3, [1, 2, 5, 6]), (2, [4]), (1, [1, 2, 24]), (0, [1, 2])], [(0, [2, 7, 8, 10, 11])], [], [], [], [], [], []⟩
def f_law09_TremorBets : Abs.Fn := ⟨2, [.t 4],
  (.seq (.reg [1, 2] f_law09_TremorBets_r0) (.seq (.seq (.reg [1, 2, 24] f_law09_TremorBets_r1) (.ite (.t 24) (.seq (.reg [4] f_law09_TremorBets_r2) .ret) .nop)) (.seq (.reg [1, 2, 5, 6] f_law09_TremorBets_r3) (.seq (.reg [1, 2, 5, 6, 7, 8] f_law09_TremorBets_r4) (.seq (.reg [1, 2, 5, 6, 7, 8, 9] f_law09_TremorBets_r5) (.seq (.seq (.reg [1, 2, 5, 6, 7, 8, 9, 44] f_law09_TremorBets_r6) (.ite (.t 44) (.reg [1, 2, 5, 6, 7, 8, 9] f_law09_TremorBets_r7) (.seq (.reg [1, 2, 5, 6, 7, 8, 9, 47] f_law09_TremorBets_r8) (.ite (.t 47) (.reg [1, 2, 5, 6, 7, 8, 9] f_law09_TremorBets_r9) .nop)))) (.seq (.seq (.reg [1, 2, 5, 6, 7, 8, 9, 49] f_law09_TremorBets_r10) (.ite (.t 49) (.seq (.reg [4] f_law09_TremorBets_r11) .ret) .nop)) (.seq (.reg [2, 5, 6, 7, 8, 10] f_law09_TremorBets_r12) (.seq (.seq (.reg [2, 7, 8, 10, 80] f_law09_TremorBets_r13) (.ite (.t 80) (.seq (.reg [4] f_law09_TremorBets_r14) .ret) .nop)) (.seq (.seq (.reg [2, 7, 8, 10, 11] f_law09_TremorBets_r15) (.blk 0 (.loop [2, 7, 8, 10, 11] false f_law09_TremorBets_l20))) (.seq (.reg [4] f_law09_TremorBets_r21) .ret)))))))))))⟩

theorem e_law09_TremorBets_r0 : type_of% f_law09_TremorBets_r0.eq_1 := by_rfl f_law09_TremorBets_r0.eq_1
theorem e_law09_TremorBets_r1 : type_of% f_law09_TremorBets_r1.eq_1 := by_rfl f_law09_TremorBets_r1.eq_1
theorem e_law09_TremorBets_r2 : type_of% f_law09_TremorBets_r2.eq_1 := by_rfl f_law09_TremorBets_r2.eq_1
theorem e_law09_TremorBets_r3 : type_of% f_law09_TremorBets_r3.eq_1 := by_rfl f_law09_TremorBets_r3.eq_1
theorem e_law09_TremorBets_r4 : type_of% f_law09_TremorBets_r4.eq_1 := by_rfl f_law09_TremorBets_r4.eq_1
theorem e_law09_TremorBets_r5 : type_of% f_law09_TremorBets_r5.eq_1 := by_rfl f_law09_TremorBets_r5.eq_1
theorem e_law09_TremorBets_r6 : type_of% f_law09_TremorBets_r6.eq_1 := by_rfl f_law09_TremorBets_r6.eq_1
theorem e_law09_TremorBets_r7 : type_of% f_law09_TremorBets_r7.eq_1 := by_rfl f_law09_TremorBets_r7.eq_1
theorem e_law09_TremorBets_r8 : type_of% f_law09_TremorBets_r8.eq_1 := by_rfl f_law09_TremorBets_r8.eq_1
theorem e_law09_TremorBets_r9 : type_of% f_law09_TremorBets_r9.eq_1 := by_rfl f_law09_TremorBets_r9.eq_1
theorem e_law09_TremorBets_r10 : type_of% f_law09_TremorBets_r10.eq_1 := by_rfl f_law09_TremorBets_r10.eq_1
theorem e_law09_TremorBets_r11 : type_of% f_law09_TremorBets_r11.eq_1 := by_rfl f_law09_TremorBets_r11.eq_1
theorem e_law09_TremorBets_r12 : type_of% f_law09_TremorBets_r12.eq_1 := by_rfl f_law09_TremorBets_r12.eq_1
theorem e_law09_TremorBets_r13 : type_of% f_law09_TremorBets_r13.eq_1 := by_rfl f_law09_TremorBets_r13.eq_1
theorem e_law09_TremorBets_r14 : type_of% f_law09_TremorBets_r14.eq_1 := by_rfl f_law09_TremorBets_r14.eq_1
theorem e_law09_TremorBets_r15 : type_of% f_law09_TremorBets_r15.eq_1 := by_rfl f_law09_TremorBets_r15.eq_1
theorem e_law09_TremorBets_r16 : type_of% f_law09_TremorBets_r16.eq_1 := by_rfl f_law09_TremorBets_r16.eq_1
theorem e_law09_TremorBets_r17 : type_of% f_law09_TremorBets_r17.eq_1 := by_rfl f_law09_TremorBets_r17.eq_1
theorem e_law09_TremorBets_r18 : type_of% f_law09_TremorBets_r18.eq_1 := by_rfl f_law09_TremorBets_r18.eq_1
theorem e_law09_TremorBets_r19 : type_of% f_law09_TremorBets_r19.eq_1 := by_rfl f_law09_TremorBets_r19.eq_1
theorem e_law09_TremorBets_l20 : type_of% f_law09_TremorBets_l20.eq_1 := by_rfl f_law09_TremorBets_l20.eq_1
theorem e_law09_TremorBets_r21 : type_of% f_law09_TremorBets_r21.eq_1 := by_rfl f_law09_TremorBets_r21.eq_1
theorem e_law09_TremorBets : type_of% f_law09_TremorBets.eq_1 := by_rfl f_law09_TremorBets.eq_1
theorem ok_law09_TremorBets : fnC Try.prog a_law09_TremorBets Try.f10 = some f_law09_TremorBets := by kernel_rfl

/-! 11 fumarole/fumarolelaw09.TremorOdds -/
def f_law09_TremorOdds_r0 : List Abs.Op := [
  ⟨some 2, none, false, .boxi (.t 0)⟩,
  ⟨some 4, none, false, .mv (.c (.bool false))⟩]

def f_law09_TremorOdds_r1 : List Abs.Op := [
  ⟨some 16, none, false, .ld true 5 (.t 2)⟩,
  ⟨some 17, none, false, .call false (.c (.fn i_ref09_RightBet [] [])) [(.t 16)]⟩,
  ⟨some 18, none, false, .un .not (.t 17)⟩,
  ⟨some 19, none, false, .mv (.t 18)⟩,
  ⟨some 20, some (19, false), false, .fadr 1 (.t 2)⟩,
  ⟨some 21, some (19, false), false, .ld false 1 (.t 20)⟩,
  ⟨some 22, some (19, false), false, .bin .gtr (.t 21) (.c (.int .i64 20))⟩,
  ⟨some 23, none, false, .pick (.t 19) (.c (.bool true)) (.t 22)⟩]

def f_law09_TremorOdds_r2 : List Abs.Op := [
  ⟨some 24, none, false, .call false (.c (.fn i_law09_awake [] [])) []⟩,
  ⟨some 4, none, false, .mv (.t 24)⟩]

def f_law09_TremorOdds_r3 : List Abs.Op := [
  ⟨some 25, none, false, .mv (.t 1)⟩,
  ⟨some 26, none, false, .cvt .i64 (.t 25)⟩,
  ⟨some 27, none, false, .bin .rem (.t 26) (.c (.int .i64 8))⟩,
  ⟨some 28, none, false, .bin .add (.c (.int .i64 1)) (.t 27)⟩,
  ⟨some 5, none, false, .mv (.t 28)⟩]

def f_law09_TremorOdds_r4 : List Abs.Op := [
  ⟨some 6, none, false, .mv (.c (.int .i64 0))⟩,
  ⟨some 7, none, false, .mv (.c (.int .i64 1))⟩]

def f_law09_TremorOdds_r5 : List Abs.Op := [
  ⟨some 8, none, false, .mv (.c (.int .i64 0))⟩]

def f_law09_TremorOdds_r6 : List Abs.Op := [
  ⟨some 29, none, false, .mv (.t 8)⟩,
  ⟨some 30, none, false, .mv (.t 5)⟩,
  ⟨some 31, none, false, .bin .lss (.t 29) (.t 30)⟩]

def f_law09_TremorOdds_r7 : List Abs.Op := [
  ⟨some 34, none, false, .mv (.t 7)⟩,
  ⟨some 35, none, false, .fadr 1 (.t 2)⟩,
  ⟨some 36, none, false, .ld false 1 (.t 35)⟩,
  ⟨some 37, none, false, .bin .mul (.t 34) (.t 36)⟩,
  ⟨some 7, none, false, .mv (.t 37)⟩]

def f_law09_TremorOdds_r8 : List Abs.Op := [
  ⟨some 32, none, false, .mv (.t 8)⟩,
  ⟨some 33, none, false, .bin .add (.t 32) (.c (.int .i64 1))⟩,
  ⟨some 8, none, false, .mv (.t 33)⟩]

def f_law09_TremorOdds_l9 : Abs.Cmd :=
  (.seq (.seq (.reg [2, 5, 6, 7, 8, 31] f_law09_TremorOdds_r6) (.ite (.t 31) .nop (.exit 0))) (.seq (.blk 1 (.reg [2, 5, 6, 7, 8] f_law09_TremorOdds_r7)) (.reg [2, 5, 6, 7, 8] f_law09_TremorOdds_r8)))

def f_law09_TremorOdds_r10 : List Abs.Op := [
  ⟨some 9, none, false, .mv (.c (.int .i64 0))⟩]

def f_law09_TremorOdds_r11 : List Abs.Op := [
  ⟨some 38, none, false, .mv (.t 9)⟩,
  ⟨some 39, none, false, .mv (.t 5)⟩,
  ⟨some 40, none, false, .cvt .u64 (.t 39)⟩,
  ⟨some 41, none, false, .bin .shl (.c (.int .i64 1)) (.t 40)⟩,
  ⟨some 42, none, false, .bin .lss (.t 38) (.t 41)⟩]

def f_law09_TremorOdds_r12 : List Abs.Op := [
  ⟨some 10, none, false, .nilb 1⟩]

def f_law09_TremorOdds_r13 : List Abs.Op := [
  ⟨some 11, none, false, .mv (.c (.int .i64 1))⟩]

def f_law09_TremorOdds_r14 : List Abs.Op := [
  ⟨some 12, none, false, .mv (.c (.int .i64 0))⟩]

def f_law09_TremorOdds_r15 : List Abs.Op := [
  ⟨some 45, none, false, .mv (.t 12)⟩,
  ⟨some 46, none, false, .mv (.t 5)⟩,
  ⟨some 47, none, false, .bin .lss (.t 45) (.t 46)⟩]

def f_law09_TremorOdds_r16 : List Abs.Op := [
  ⟨some 50, none, false, .mv (.t 9)⟩,
  ⟨some 51, none, false, .mv (.t 12)⟩,
  ⟨some 52, none, false, .cvt .u64 (.t 51)⟩,
  ⟨some 53, none, false, .bin .shr (.t 50) (.t 52)⟩,
  ⟨some 54, none, false, .bin .and (.t 53) (.c (.int .i64 1))⟩,
  ⟨some 55, none, false, .bin .eql (.t 54) (.c (.int .i64 1))⟩,
  ⟨some 13, none, false, .mv (.t 55)⟩]

def f_law09_TremorOdds_r17 : List Abs.Op := [
  ⟨some 56, none, false, .mv (.t 10)⟩,
  ⟨some 57, none, false, .mv (.t 13)⟩,
  ⟨some 58, none, false, .bsi 1 1 [(.bool false)] [(0, 1, (.t 57))]⟩,
  ⟨some 59, none, false, .app 1 1 (.t 56) (.t 58)⟩,
  ⟨some 10, none, false, .mv (.t 59)⟩]

def f_law09_TremorOdds_r18 : List Abs.Op := [
  ⟨some 60, none, false, .mv (.t 13)⟩]

def f_law09_TremorOdds_r19 : List Abs.Op := [
  ⟨some 61, none, false, .mv (.t 11)⟩,
  ⟨some 62, none, false, .fadr 0 (.t 2)⟩,
  ⟨some 63, none, false, .ld false 1 (.t 62)⟩,
  ⟨some 64, none, false, .bin .mul (.t 61) (.t 63)⟩,
  ⟨some 11, none, false, .mv (.t 64)⟩]

def f_law09_TremorOdds_r20 : List Abs.Op := [
  ⟨some 65, none, false, .mv (.t 11)⟩,
  ⟨some 66, none, false, .fadr 1 (.t 2)⟩,
  ⟨some 67, none, false, .ld false 1 (.t 66)⟩,
  ⟨some 68, none, false, .fadr 0 (.t 2)⟩,
  ⟨some 69, none, false, .ld false 1 (.t 68)⟩,
  ⟨some 70, none, false, .bin .sub (.t 67) (.t 69)⟩,
  ⟨some 71, none, false, .bin .mul (.t 65) (.t 70)⟩,
  ⟨some 11, none, false, .mv (.t 71)⟩]

def f_law09_TremorOdds_r21 : List Abs.Op := [
  ⟨some 48, none, false, .mv (.t 12)⟩,
  ⟨some 49, none, false, .bin .add (.t 48) (.c (.int .i64 1))⟩,
  ⟨some 12, none, false, .mv (.t 49)⟩]

def f_law09_TremorOdds_l22 : Abs.Cmd :=
  (.seq (.seq (.reg [2, 5, 6, 7, 9, 10, 11, 12, 47] f_law09_TremorOdds_r15) (.ite (.t 47) .nop (.exit 4))) (.seq (.blk 5 (.seq (.reg [2, 5, 6, 7, 9, 10, 11, 12, 13] f_law09_TremorOdds_r16) (.seq (.reg [2, 5, 6, 7, 9, 10, 11, 12, 13] f_law09_TremorOdds_r17) (.seq (.reg [2, 5, 6, 7, 9, 10, 11, 12, 60] f_law09_TremorOdds_r18) (.ite (.t 60) (.reg [2, 5, 6, 7, 9, 10, 11, 12] f_law09_TremorOdds_r19) (.reg [2, 5, 6, 7, 9, 10, 11, 12] f_law09_TremorOdds_r20)))))) (.reg [2, 5, 6, 7, 9, 10, 11, 12] f_law09_TremorOdds_r21)))

def f_law09_TremorOdds_r23 : List Abs.Op := [
  ⟨some 73, none, false, .ld true 5 (.t 2)⟩,
  ⟨some 74, none, false, .call false (.c (.fn i_law09_Bet [] [])) [(.t 73)]⟩,
  ⟨some 75, none, false, .mv (.t 10)⟩,
  ⟨some 76, none, false, .call false (.c (.fn i_tremor_Won [] [])) [(.t 74), (.t 75)]⟩,
  ⟨some 72, none, false, .mv (.t 76)⟩,
  ⟨some 77, none, false, .ext (.t 72) 0⟩,
  ⟨some 78, none, false, .ext (.t 72) 1⟩,
  ⟨some 14, none, false, .mv (.t 77)⟩,
  ⟨some 15, none, false, .mv (.t 78)⟩]

def f_law09_TremorOdds_r24 : List Abs.Op := [
  ⟨some 79, none, false, .mv (.t 15)⟩,
  ⟨some 80, none, false, .bin .eql (.t 79) (.c (.int .i64 0))⟩,
  ⟨some 81, none, false, .mv (.t 80)⟩,
  ⟨some 82, some (81, true), false, .mv (.t 14)⟩,
  ⟨some 83, some (81, true), false, .mv (.t 5)⟩,
  ⟨some 84, some (81, true), false, .bin .sub (.t 83) (.c (.int .i64 1))⟩,
  ⟨some 85, some (81, true), false, .call false (.c (.fn i_ref09_In [] [])) [(.t 82), (.c (.int .i64 0)), (.t 84)]⟩,
  ⟨some 86, none, false, .pick (.t 81) (.t 85) (.c (.bool false))⟩]

def f_law09_TremorOdds_r25 : List Abs.Op := [
  ⟨some 87, none, false, .mv (.t 6)⟩,
  ⟨some 88, none, false, .mv (.t 11)⟩,
  ⟨some 89, none, false, .bin .add (.t 87) (.t 88)⟩,
  ⟨some 6, none, false, .mv (.t 89)⟩]

def f_law09_TremorOdds_r26 : List Abs.Op := [
  ⟨some 90, none, false, .mv (.t 15)⟩,
  ⟨some 91, none, false, .bin .neq (.t 90) (.c (.int .i64 7))⟩]

def f_law09_TremorOdds_r27 : List Abs.Op := [
  ⟨some 4, none, false, .mv (.c (.bool false))⟩]

def f_law09_TremorOdds_r28 : List Abs.Op := [
  ⟨some 43, none, false, .mv (.t 9)⟩,
  ⟨some 44, none, false, .bin .add (.t 43) (.c (.int .i64 1))⟩,
  ⟨some 9, none, false, .mv (.t 44)⟩]

def f_law09_TremorOdds_l29 : Abs.Cmd :=
  (.seq (.seq (.reg [2, 5, 6, 7, 9, 42] f_law09_TremorOdds_r11) (.ite (.t 42) .nop (.exit 2))) (.seq (.blk 3 (.seq (.reg [2, 5, 6, 7, 9, 10] f_law09_TremorOdds_r12) (.seq (.reg [2, 5, 6, 7, 9, 10, 11] f_law09_TremorOdds_r13) (.seq (.seq (.reg [2, 5, 6, 7, 9, 10, 11, 12] f_law09_TremorOdds_r14) (.blk 4 (.loop [2, 5, 6, 7, 9, 10, 11, 12] false f_law09_TremorOdds_l22))) (.seq (.seq (.frz [10]) (.reg [2, 5, 6, 7, 9, 11, 14, 15] f_law09_TremorOdds_r23)) (.seq (.reg [2, 5, 6, 7, 9, 11, 15, 86] f_law09_TremorOdds_r24) (.ite (.t 86) (.reg [2, 5, 6, 7, 9] f_law09_TremorOdds_r25) (.seq (.reg [2, 5, 6, 7, 9, 91] f_law09_TremorOdds_r26) (.ite (.t 91) (.seq (.reg [4] f_law09_TremorOdds_r27) .ret) .nop))))))))) (.reg [2, 5, 6, 7, 9] f_law09_TremorOdds_r28)))

def f_law09_TremorOdds_r30 : List Abs.Op := [
  ⟨some 92, none, false, .mv (.t 6)⟩,
  ⟨some 93, none, false, .fadr 4 (.t 2)⟩,
  ⟨some 94, none, false, .ld false 1 (.t 93)⟩,
  ⟨some 95, none, false, .bin .mul (.t 92) (.t 94)⟩,
  ⟨some 96, none, false, .mv (.t 7)⟩,
  ⟨some 97, none, false, .bin .leq (.t 95) (.t 96)⟩,
  ⟨some 98, none, false, .mv (.t 97)⟩,
  ⟨some 99, some (98, true), false, .call false (.c (.fn i_law09_awake [] [])) []⟩,
  ⟨some 100, none, false, .pick (.t 98) (.t 99) (.c (.bool false))⟩,
  ⟨some 4, none, false, .mv (.t 100)⟩]

def a_law09_TremorOdds : Ann := ⟨[(27, [4]), (11, [2, 5, 6, 7, 9]), (24, [2, 5, 6, 7, 9]), (26, [4]), (25, [2, 5, 6, 7, 9, 91]), (23, [2, 5, 6, 7, 9, 11, 15, 86]), (22, [2, 5, 6, 7, 9, 11, 14, 15]), (16, [2, 5, 6, 7, 9, 10, 11, 12]), (20, [2, 5, 6, 7, 9, 10, 11, 12]), (21, [2, 5, 6, 7, 9, 10, 11, 12]), (19, [2, 5, 6, 7, 9, 10, 11, 12, 60]), (18, [2, 5, 6, 7, 9, 10, 11, 12, 13]), (17, [2, 5, 6, 7, 9, 10, 11, 12, 13]), (15, [2, 5, 6, 7, 9, 10, 11, 12, 47]), (14, [2, 5, 6, 7, 9, 10, 11, 12]), (13, [2, 5, 6, 7, 9, 10, 11]), (12, [2, 5, 6, 7, 9, 10]), (10, [2, 5, 6, 7, 9, 42]), (9, [2, 5, 6, 7, 9]), (7, [2, 5, 6, 7, 8]), (8, [2, 5, 6, 7, 8]), (6, [2, 5, 6, 7, 8, 31]), (5, [2, 5, 6, 7, 8]), (4, [2, 5, 6, 7]), (3, [2, 5]), (2, [4]), (1, [1, 2, 23]), (0, [1, 2])], [(4, [2, 5, 6, 7, 9, 10, 11, 12]), (2, [2, 5, 6, 7, 9]), (0, [2, 5, 6, 7, 8])], [2], [10], [], [], [], [(22, [10])]⟩
def f_law09_TremorOdds : Abs.Fn := ⟨2, [.t 4],
  (.seq (.reg [1, 2] f_law09_TremorOdds_r0) (.seq (.seq (.reg [1, 2, 23] f_law09_TremorOdds_r1) (.ite (.t 23) (.seq (.reg [4] f_law09_TremorOdds_r2) .ret) .nop)) (.seq (.reg [2, 5] f_law09_TremorOdds_r3) (.seq (.reg [2, 5, 6, 7] f_law09_TremorOdds_r4) (.seq (.seq (.reg [2, 5, 6, 7, 8] f_law09_TremorOdds_r5) (.blk 0 (.loop [2, 5, 6, 7, 8] false f_law09_TremorOdds_l9))) (.seq (.seq (.reg [2, 5, 6, 7, 9] f_law09_TremorOdds_r10) (.blk 2 (.loop [2, 5, 6, 7, 9] true f_law09_TremorOdds_l29))) (.seq (.reg [4] f_law09_TremorOdds_r30) .ret)))))))⟩

theorem e_law09_TremorOdds_r0 : type_of% f_law09_TremorOdds_r0.eq_1 := by_rfl f_law09_TremorOdds_r0.eq_1
theorem e_law09_TremorOdds_r1 : type_of% f_law09_TremorOdds_r1.eq_1 := by_rfl f_law09_TremorOdds_r1.eq_1
theorem e_law09_TremorOdds_r2 : type_of% f_law09_TremorOdds_r2.eq_1 := by_rfl f_law09_TremorOdds_r2.eq_1
theorem e_law09_TremorOdds_r3 : type_of% f_law09_TremorOdds_r3.eq_1 := by_rfl f_law09_TremorOdds_r3.eq_1
theorem e_law09_TremorOdds_r4 : type_of% f_law09_TremorOdds_r4.eq_1 := by_rfl f_law09_TremorOdds_r4.eq_1
theorem e_law09_TremorOdds_r5 : type_of% f_law09_TremorOdds_r5.eq_1 := by_rfl f_law09_TremorOdds_r5.eq_1
theorem e_law09_TremorOdds_r6 : type_of% f_law09_TremorOdds_r6.eq_1 := by_rfl f_law09_TremorOdds_r6.eq_1
theorem e_law09_TremorOdds_r7 : type_of% f_law09_TremorOdds_r7.eq_1 := by_rfl f_law09_TremorOdds_r7.eq_1
theorem e_law09_TremorOdds_r8 : type_of% f_law09_TremorOdds_r8.eq_1 := by_rfl f_law09_TremorOdds_r8.eq_1
theorem e_law09_TremorOdds_l9 : type_of% f_law09_TremorOdds_l9.eq_1 := by_rfl f_law09_TremorOdds_l9.eq_1
theorem e_law09_TremorOdds_r10 : type_of% f_law09_TremorOdds_r10.eq_1 := by_rfl f_law09_TremorOdds_r10.eq_1
theorem e_law09_TremorOdds_r11 : type_of% f_law09_TremorOdds_r11.eq_1 := by_rfl f_law09_TremorOdds_r11.eq_1
theorem e_law09_TremorOdds_r12 : type_of% f_law09_TremorOdds_r12.eq_1 := by_rfl f_law09_TremorOdds_r12.eq_1
theorem e_law09_TremorOdds_r13 : type_of% f_law09_TremorOdds_r13.eq_1 := by_rfl f_law09_TremorOdds_r13.eq_1
theorem e_law09_TremorOdds_r14 : type_of% f_law09_TremorOdds_r14.eq_1 := by_rfl f_law09_TremorOdds_r14.eq_1
theorem e_law09_TremorOdds_r15 : type_of% f_law09_TremorOdds_r15.eq_1 := by_rfl f_law09_TremorOdds_r15.eq_1
theorem e_law09_TremorOdds_r16 : type_of% f_law09_TremorOdds_r16.eq_1 := by_rfl f_law09_TremorOdds_r16.eq_1
theorem e_law09_TremorOdds_r17 : type_of% f_law09_TremorOdds_r17.eq_1 := by_rfl f_law09_TremorOdds_r17.eq_1
theorem e_law09_TremorOdds_r18 : type_of% f_law09_TremorOdds_r18.eq_1 := by_rfl f_law09_TremorOdds_r18.eq_1
theorem e_law09_TremorOdds_r19 : type_of% f_law09_TremorOdds_r19.eq_1 := by_rfl f_law09_TremorOdds_r19.eq_1
theorem e_law09_TremorOdds_r20 : type_of% f_law09_TremorOdds_r20.eq_1 := by_rfl f_law09_TremorOdds_r20.eq_1
theorem e_law09_TremorOdds_r21 : type_of% f_law09_TremorOdds_r21.eq_1 := by_rfl f_law09_TremorOdds_r21.eq_1
theorem e_law09_TremorOdds_l22 : type_of% f_law09_TremorOdds_l22.eq_1 := by_rfl f_law09_TremorOdds_l22.eq_1
theorem e_law09_TremorOdds_r23 : type_of% f_law09_TremorOdds_r23.eq_1 := by_rfl f_law09_TremorOdds_r23.eq_1
theorem e_law09_TremorOdds_r24 : type_of% f_law09_TremorOdds_r24.eq_1 := by_rfl f_law09_TremorOdds_r24.eq_1
theorem e_law09_TremorOdds_r25 : type_of% f_law09_TremorOdds_r25.eq_1 := by_rfl f_law09_TremorOdds_r25.eq_1
theorem e_law09_TremorOdds_r26 : type_of% f_law09_TremorOdds_r26.eq_1 := by_rfl f_law09_TremorOdds_r26.eq_1
theorem e_law09_TremorOdds_r27 : type_of% f_law09_TremorOdds_r27.eq_1 := by_rfl f_law09_TremorOdds_r27.eq_1
theorem e_law09_TremorOdds_r28 : type_of% f_law09_TremorOdds_r28.eq_1 := by_rfl f_law09_TremorOdds_r28.eq_1
theorem e_law09_TremorOdds_l29 : type_of% f_law09_TremorOdds_l29.eq_1 := by_rfl f_law09_TremorOdds_l29.eq_1
theorem e_law09_TremorOdds_r30 : type_of% f_law09_TremorOdds_r30.eq_1 := by_rfl f_law09_TremorOdds_r30.eq_1
theorem e_law09_TremorOdds : type_of% f_law09_TremorOdds.eq_1 := by_rfl f_law09_TremorOdds.eq_1
theorem ok_law09_TremorOdds : fnC Try.prog a_law09_TremorOdds Try.f11 = some f_law09_TremorOdds := by kernel_rfl

end Go.Proofs.Yticpenoicajakaa
