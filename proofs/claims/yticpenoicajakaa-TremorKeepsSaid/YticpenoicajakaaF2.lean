/- The code of functions of the program, in the small instruction set; each is what the translation makes of it. -/
import Derived.Test.YticpenoicajakaaIds
set_option linter.unusedVariables false
set_option maxRecDepth 100000
namespace Go.Proofs.Yticpenoicajakaa
open Go Go.Abs
/-! 28 fumarole/fumaroleref09.RightScale -/
def f_ref09_RightScale_r0 : List Abs.Op := [
  ⟨some 1, none, false, .boxi (.t 0)⟩,
  ⟨some 2, none, false, .mv (.c (.bool false))⟩]

def f_ref09_RightScale_r1 : List Abs.Op := [
  ⟨some 3, none, false, .mv (.c (.int .i64 0))⟩]

def f_ref09_RightScale_r2 : List Abs.Op := [
  ⟨some 6, none, false, .mv (.t 3)⟩,
  ⟨some 7, none, false, .fadr 0 (.t 1)⟩,
  ⟨some 8, none, false, .ld false 1 (.t 7)⟩,
  ⟨some 9, none, false, .lenS (.t 8)⟩,
  ⟨some 10, none, false, .bin .lss (.t 6) (.t 9)⟩]

def f_ref09_RightScale_r3 : List Abs.Op := [
  ⟨some 13, none, true, .fadr 0 (.t 1)⟩,
  ⟨some 14, none, true, .ld false 1 (.t 13)⟩,
  ⟨some 15, none, true, .mv (.t 3)⟩,
  ⟨some 16, none, true, .idxS 1 (.t 14) (.t 15)⟩,
  ⟨some 17, none, true, .ld false 1 (.t 16)⟩,
  ⟨some 18, none, true, .call false (.c (.fn i_ref09_In [] [])) [(.t 17), (.c (.int .i64 1)), (.c (.int .i64 1000000000))]⟩,
  ⟨some 19, none, true, .un .not (.t 18)⟩,
  ⟨some 20, none, true, .mv (.t 19)⟩,
  ⟨some 21, some (20, false), true, .mv (.t 3)⟩,
  ⟨some 22, some (20, false), true, .bin .gtr (.t 21) (.c (.int .i64 0))⟩,
  ⟨some 23, some (20, false), true, .mv (.t 22)⟩,
  ⟨some 24, some (23, true), true, .fadr 0 (.t 1)⟩,
  ⟨some 25, some (23, true), true, .ld false 1 (.t 24)⟩,
  ⟨some 26, some (23, true), true, .mv (.t 3)⟩,
  ⟨some 27, some (23, true), true, .idxS 1 (.t 25) (.t 26)⟩,
  ⟨some 28, some (23, true), true, .ld false 1 (.t 27)⟩,
  ⟨some 29, some (23, true), true, .fadr 0 (.t 1)⟩,
  ⟨some 30, some (23, true), true, .ld false 1 (.t 29)⟩,
  ⟨some 31, some (23, true), true, .mv (.t 3)⟩,
  ⟨some 32, some (23, true), true, .bin .sub (.t 31) (.c (.int .i64 1))⟩,
  ⟨some 33, some (23, true), true, .idxS 1 (.t 30) (.t 32)⟩,
  ⟨some 34, some (23, true), true, .ld false 1 (.t 33)⟩,
  ⟨some 35, some (23, true), false, .bin .leq (.t 28) (.t 34)⟩,
  ⟨some 36, some (20, false), false, .pick (.t 23) (.t 35) (.c (.bool false))⟩,
  ⟨some 37, none, false, .pick (.t 20) (.c (.bool true)) (.t 36)⟩]

def f_ref09_RightScale_r4 : List Abs.Op := [
  ⟨some 2, none, false, .mv (.c (.bool false))⟩]

def f_ref09_RightScale_r5 : List Abs.Op := [
  ⟨some 11, none, false, .mv (.t 3)⟩,
  ⟨some 12, none, false, .bin .add (.t 11) (.c (.int .i64 1))⟩,
  ⟨some 3, none, false, .mv (.t 12)⟩]

def f_ref09_RightScale_l6 : Abs.Cmd :=
  (.seq (.seq (.reg [1, 3, 10] f_ref09_RightScale_r2) (.ite (.t 10) .nop (.exit 0))) (.seq (.blk 1 (.seq (.reg [1, 3, 37] f_ref09_RightScale_r3) (.ite (.t 37) (.seq (.reg [2] f_ref09_RightScale_r4) .ret) .nop))) (.reg [1, 3] f_ref09_RightScale_r5)))

def f_ref09_RightScale_r7 : List Abs.Op := [
  ⟨some 4, none, false, .mv (.c (.int .i64 0))⟩]

def f_ref09_RightScale_r8 : List Abs.Op := [
  ⟨some 38, none, false, .mv (.t 4)⟩,
  ⟨some 39, none, false, .fadr 1 (.t 1)⟩,
  ⟨some 40, none, false, .ld false 1 (.t 39)⟩,
  ⟨some 41, none, false, .lenS (.t 40)⟩,
  ⟨some 42, none, false, .bin .lss (.t 38) (.t 41)⟩]

def f_ref09_RightScale_r9 : List Abs.Op := [
  ⟨some 45, none, false, .fadr 1 (.t 1)⟩,
  ⟨some 46, none, false, .ld false 1 (.t 45)⟩,
  ⟨some 47, none, false, .mv (.t 4)⟩,
  ⟨some 48, none, false, .idxS 2 (.t 46) (.t 47)⟩,
  ⟨some 49, none, false, .ld true 2 (.t 48)⟩,
  ⟨some 5, none, false, .alcv [] [(.int .i64 0), (.int .i64 0)]⟩,
  ⟨none, none, false, .stv 5 [] 2 5 (.t 49)⟩]

def f_ref09_RightScale_r10 : List Abs.Op := [
  ⟨some 50, none, true, .fadr 0 (.t 5)⟩,
  ⟨some 51, none, true, .ldv 5 false 1 50⟩,
  ⟨some 52, none, true, .call false (.c (.fn i_ref09_In [] [])) [(.t 51), (.c (.int .i64 0)), (.c (.int .i64 20000))]⟩,
  ⟨some 53, none, true, .un .not (.t 52)⟩,
  ⟨some 54, none, true, .mv (.t 53)⟩,
  ⟨some 55, some (54, false), true, .mv (.t 4)⟩,
  ⟨some 56, some (54, false), true, .bin .eql (.t 55) (.c (.int .i64 0))⟩,
  ⟨some 57, some (54, false), true, .mv (.t 56)⟩,
  ⟨some 58, some (57, true), true, .fadr 0 (.t 5)⟩,
  ⟨some 59, some (57, true), true, .ldv 5 false 1 58⟩,
  ⟨some 60, some (57, true), true, .bin .neq (.t 59) (.c (.int .i64 0))⟩,
  ⟨some 61, some (54, false), true, .pick (.t 57) (.t 60) (.c (.bool false))⟩,
  ⟨some 62, none, true, .pick (.t 54) (.c (.bool true)) (.t 61)⟩,
  ⟨some 63, none, true, .mv (.t 62)⟩,
  ⟨some 64, some (63, false), true, .mv (.t 4)⟩,
  ⟨some 65, some (63, false), true, .bin .gtr (.t 64) (.c (.int .i64 0))⟩,
  ⟨some 66, some (63, false), true, .mv (.t 65)⟩,
  ⟨some 67, some (66, true), true, .fadr 0 (.t 5)⟩,
  ⟨some 68, some (66, true), true, .ldv 5 false 1 67⟩,
  ⟨some 69, some (66, true), true, .fadr 1 (.t 1)⟩,
  ⟨some 70, some (66, true), true, .ld false 1 (.t 69)⟩,
  ⟨some 71, some (66, true), true, .mv (.t 4)⟩,
  ⟨some 72, some (66, true), true, .bin .sub (.t 71) (.c (.int .i64 1))⟩,
  ⟨some 73, some (66, true), true, .idxS 2 (.t 70) (.t 72)⟩,
  ⟨some 74, some (66, true), true, .fadr 0 (.t 73)⟩,
  ⟨some 75, some (66, true), true, .ld false 1 (.t 74)⟩,
  ⟨some 76, some (66, true), false, .bin .leq (.t 68) (.t 75)⟩,
  ⟨some 77, some (63, false), false, .pick (.t 66) (.t 76) (.c (.bool false))⟩,
  ⟨some 78, none, false, .pick (.t 63) (.c (.bool true)) (.t 77)⟩,
  ⟨some 79, none, false, .mv (.t 78)⟩,
  ⟨some 80, some (79, false), false, .fadr 1 (.t 5)⟩,
  ⟨some 81, some (79, false), false, .ldv 5 false 1 80⟩,
  ⟨some 82, some (79, false), false, .call false (.c (.fn i_ref09_In [] [])) [(.t 81), (.c (.int .i64 0)), (.c (.int .i64 100))]⟩,
  ⟨some 83, some (79, false), false, .un .not (.t 82)⟩,
  ⟨some 84, none, false, .pick (.t 79) (.c (.bool true)) (.t 83)⟩]

def f_ref09_RightScale_r11 : List Abs.Op := [
  ⟨some 2, none, false, .mv (.c (.bool false))⟩]

def f_ref09_RightScale_r12 : List Abs.Op := [
  ⟨some 43, none, false, .mv (.t 4)⟩,
  ⟨some 44, none, false, .bin .add (.t 43) (.c (.int .i64 1))⟩,
  ⟨some 4, none, false, .mv (.t 44)⟩]

def f_ref09_RightScale_l13 : Abs.Cmd :=
  (.seq (.seq (.reg [1, 4, 42] f_ref09_RightScale_r8) (.ite (.t 42) .nop (.exit 2))) (.seq (.blk 3 (.seq (.reg [1, 4, 5] f_ref09_RightScale_r9) (.seq (.reg [1, 4, 84] f_ref09_RightScale_r10) (.ite (.t 84) (.seq (.reg [2] f_ref09_RightScale_r11) .ret) .nop)))) (.reg [1, 4] f_ref09_RightScale_r12)))

def f_ref09_RightScale_r14 : List Abs.Op := [
  ⟨some 85, none, false, .fadr 0 (.t 1)⟩,
  ⟨some 86, none, false, .ld false 1 (.t 85)⟩,
  ⟨some 87, none, false, .lenS (.t 86)⟩,
  ⟨some 88, none, false, .bin .geq (.t 87) (.c (.int .i64 1))⟩,
  ⟨some 89, none, false, .mv (.t 88)⟩,
  ⟨some 90, some (89, true), false, .fadr 0 (.t 1)⟩,
  ⟨some 91, some (89, true), false, .ld false 1 (.t 90)⟩,
  ⟨some 92, some (89, true), false, .lenS (.t 91)⟩,
  ⟨some 93, some (89, true), false, .bin .leq (.t 92) (.c (.int .i64 60))⟩,
  ⟨some 94, none, false, .pick (.t 89) (.t 93) (.c (.bool false))⟩,
  ⟨some 95, none, false, .mv (.t 94)⟩,
  ⟨some 96, some (95, true), false, .fadr 1 (.t 1)⟩,
  ⟨some 97, some (95, true), false, .ld false 1 (.t 96)⟩,
  ⟨some 98, some (95, true), false, .lenS (.t 97)⟩,
  ⟨some 99, some (95, true), false, .bin .geq (.t 98) (.c (.int .i64 1))⟩,
  ⟨some 100, none, false, .pick (.t 95) (.t 99) (.c (.bool false))⟩,
  ⟨some 101, none, false, .mv (.t 100)⟩,
  ⟨some 102, some (101, true), false, .fadr 1 (.t 1)⟩,
  ⟨some 103, some (101, true), false, .ld false 1 (.t 102)⟩,
  ⟨some 104, some (101, true), false, .lenS (.t 103)⟩,
  ⟨some 105, some (101, true), false, .bin .leq (.t 104) (.c (.int .i64 20))⟩,
  ⟨some 106, none, false, .pick (.t 101) (.t 105) (.c (.bool false))⟩,
  ⟨some 2, none, false, .mv (.t 106)⟩]

def a_ref09_RightScale : Ann := ⟨[(12, [2]), (8, [1, 4]), (11, [2]), (10, [1, 4, 84]), (9, [1, 4, 5]), (7, [1, 4, 42]), (6, [1, 4]), (3, [1, 3]), (5, [2]), (4, [1, 3, 37]), (2, [1, 3, 10]), (1, [1, 3]), (0, [1])], [(2, [1, 4]), (0, [1, 3])], [], [5], [5], [], [], []⟩
def f_ref09_RightScale : Abs.Fn := ⟨1, [.t 2],
  (.seq (.reg [1] f_ref09_RightScale_r0) (.seq (.seq (.reg [1, 3] f_ref09_RightScale_r1) (.blk 0 (.loop [1, 3] false f_ref09_RightScale_l6))) (.seq (.seq (.reg [1, 4] f_ref09_RightScale_r7) (.blk 2 (.loop [1, 4] false f_ref09_RightScale_l13))) (.seq (.reg [2] f_ref09_RightScale_r14) .ret))))⟩

theorem e_ref09_RightScale_r0 : type_of% f_ref09_RightScale_r0.eq_1 := by_rfl f_ref09_RightScale_r0.eq_1
theorem e_ref09_RightScale_r1 : type_of% f_ref09_RightScale_r1.eq_1 := by_rfl f_ref09_RightScale_r1.eq_1
theorem e_ref09_RightScale_r2 : type_of% f_ref09_RightScale_r2.eq_1 := by_rfl f_ref09_RightScale_r2.eq_1
theorem e_ref09_RightScale_r3 : type_of% f_ref09_RightScale_r3.eq_1 := by_rfl f_ref09_RightScale_r3.eq_1
theorem e_ref09_RightScale_r4 : type_of% f_ref09_RightScale_r4.eq_1 := by_rfl f_ref09_RightScale_r4.eq_1
theorem e_ref09_RightScale_r5 : type_of% f_ref09_RightScale_r5.eq_1 := by_rfl f_ref09_RightScale_r5.eq_1
theorem e_ref09_RightScale_l6 : type_of% f_ref09_RightScale_l6.eq_1 := by_rfl f_ref09_RightScale_l6.eq_1
theorem e_ref09_RightScale_r7 : type_of% f_ref09_RightScale_r7.eq_1 := by_rfl f_ref09_RightScale_r7.eq_1
theorem e_ref09_RightScale_r8 : type_of% f_ref09_RightScale_r8.eq_1 := by_rfl f_ref09_RightScale_r8.eq_1
theorem e_ref09_RightScale_r9 : type_of% f_ref09_RightScale_r9.eq_1 := by_rfl f_ref09_RightScale_r9.eq_1
theorem e_ref09_RightScale_r10 : type_of% f_ref09_RightScale_r10.eq_1 := by_rfl f_ref09_RightScale_r10.eq_1
theorem e_ref09_RightScale_r11 : type_of% f_ref09_RightScale_r11.eq_1 := by_rfl f_ref09_RightScale_r11.eq_1
theorem e_ref09_RightScale_r12 : type_of% f_ref09_RightScale_r12.eq_1 := by_rfl f_ref09_RightScale_r12.eq_1
theorem e_ref09_RightScale_l13 : type_of% f_ref09_RightScale_l13.eq_1 := by_rfl f_ref09_RightScale_l13.eq_1
theorem e_ref09_RightScale_r14 : type_of% f_ref09_RightScale_r14.eq_1 := by_rfl f_ref09_RightScale_r14.eq_1
theorem e_ref09_RightScale : type_of% f_ref09_RightScale.eq_1 := by_rfl f_ref09_RightScale.eq_1
theorem ok_ref09_RightScale : fnC Try.prog a_ref09_RightScale Try.f28 = some f_ref09_RightScale := by kernel_rfl

/-! 29 fumarole/fumaroleref09.Dot -/
def f_ref09_Dot_r0 : List Abs.Op := [
  ⟨some 1, none, false, .boxi (.t 0)⟩,
  ⟨some 2, none, false, .mv (.c (.bool false))⟩]

def f_ref09_Dot_r1 : List Abs.Op := [
  ⟨some 3, none, false, .fadr 0 (.t 1)⟩,
  ⟨some 4, none, false, .ld false 1 (.t 3)⟩,
  ⟨some 5, none, false, .call false (.c (.fn i_ref09_In [] [])) [(.t 4), (.c (.int .i64 (-20000))), (.c (.int .i64 20000))]⟩,
  ⟨some 6, none, false, .mv (.t 5)⟩,
  ⟨some 7, some (6, true), false, .fadr 1 (.t 1)⟩,
  ⟨some 8, some (6, true), false, .ld false 1 (.t 7)⟩,
  ⟨some 9, some (6, true), false, .call false (.c (.fn i_ref09_In [] [])) [(.t 8), (.c (.int .i64 (-20000))), (.c (.int .i64 20000))]⟩,
  ⟨some 10, none, false, .pick (.t 6) (.t 9) (.c (.bool false))⟩,
  ⟨some 11, none, false, .mv (.t 10)⟩,
  ⟨some 12, some (11, true), false, .fadr 2 (.t 1)⟩,
  ⟨some 13, some (11, true), false, .ld false 1 (.t 12)⟩,
  ⟨some 14, some (11, true), false, .call false (.c (.fn i_ref09_In [] [])) [(.t 13), (.c (.int .i64 (-20000))), (.c (.int .i64 20000))]⟩,
  ⟨some 15, none, false, .pick (.t 11) (.t 14) (.c (.bool false))⟩,
  ⟨some 2, none, false, .mv (.t 15)⟩]

def a_ref09_Dot : Ann := ⟨[(1, [2]), (0, [1])], [], [], [], [], [], [], []⟩
def f_ref09_Dot : Abs.Fn := ⟨1, [.t 2],
  (.seq (.reg [1] f_ref09_Dot_r0) (.seq (.reg [2] f_ref09_Dot_r1) .ret))⟩

theorem e_ref09_Dot_r0 : type_of% f_ref09_Dot_r0.eq_1 := by_rfl f_ref09_Dot_r0.eq_1
theorem e_ref09_Dot_r1 : type_of% f_ref09_Dot_r1.eq_1 := by_rfl f_ref09_Dot_r1.eq_1
theorem e_ref09_Dot : type_of% f_ref09_Dot.eq_1 := by_rfl f_ref09_Dot.eq_1
theorem ok_ref09_Dot : fnC Try.prog a_ref09_Dot Try.f29 = some f_ref09_Dot := by kernel_rfl

/-! 30 fumarole/fumaroleref09.Readings -/
def f_ref09_Readings_r0 : List Abs.Op := [
  ⟨some 2, none, false, .boxi (.t 0)⟩,
  ⟨some 4, none, false, .mv (.c (.bool false))⟩]

def f_ref09_Readings_r1 : List Abs.Op := [
  ⟨some 5, none, false, .mv (.c (.int .i64 0))⟩]

def f_ref09_Readings_r2 : List Abs.Op := [
  ⟨some 6, none, false, .mv (.t 5)⟩,
  ⟨some 7, none, false, .mv (.t 1)⟩,
  ⟨some 8, none, false, .lenS (.t 7)⟩,
  ⟨some 9, none, false, .bin .lss (.t 6) (.t 8)⟩]

def f_ref09_Readings_r3 : List Abs.Op := [
  ⟨some 12, none, true, .mv (.t 1)⟩,
  ⟨some 13, none, true, .mv (.t 5)⟩,
  ⟨some 14, none, true, .idxS 2 (.t 12) (.t 13)⟩,
  ⟨some 15, none, true, .fadr 0 (.t 14)⟩,
  ⟨some 16, none, true, .ld false 1 (.t 15)⟩,
  ⟨some 17, none, true, .fadr 0 (.t 2)⟩,
  ⟨some 18, none, true, .ld false 1 (.t 17)⟩,
  ⟨some 19, none, true, .lenS (.t 18)⟩,
  ⟨some 20, none, true, .bin .sub (.t 19) (.c (.int .i64 1))⟩,
  ⟨some 21, none, true, .call false (.c (.fn i_ref09_In [] [])) [(.t 16), (.c (.int .i64 0)), (.t 20)]⟩,
  ⟨some 22, none, true, .un .not (.t 21)⟩,
  ⟨some 23, none, true, .mv (.t 22)⟩,
  ⟨some 24, some (23, false), true, .mv (.t 1)⟩,
  ⟨some 25, some (23, false), true, .mv (.t 5)⟩,
  ⟨some 26, some (23, false), false, .idxS 2 (.t 24) (.t 25)⟩,
  ⟨some 27, some (23, false), false, .fadr 1 (.t 26)⟩,
  ⟨some 28, some (23, false), false, .ld false 1 (.t 27)⟩,
  ⟨some 29, some (23, false), false, .call false (.c (.fn i_ref09_In [] [])) [(.t 28), (.c (.int .i64 0)), (.c (.int .i64 1000000000))]⟩,
  ⟨some 30, some (23, false), false, .un .not (.t 29)⟩,
  ⟨some 31, none, false, .pick (.t 23) (.c (.bool true)) (.t 30)⟩]

def f_ref09_Readings_r4 : List Abs.Op := [
  ⟨some 4, none, false, .mv (.c (.bool false))⟩]

def f_ref09_Readings_r5 : List Abs.Op := [
  ⟨some 10, none, false, .mv (.t 5)⟩,
  ⟨some 11, none, false, .bin .add (.t 10) (.c (.int .i64 1))⟩,
  ⟨some 5, none, false, .mv (.t 11)⟩]

def f_ref09_Readings_l6 : Abs.Cmd :=
  (.seq (.seq (.reg [1, 2, 5, 9] f_ref09_Readings_r2) (.ite (.t 9) .nop (.exit 0))) (.seq (.blk 1 (.seq (.reg [1, 2, 5, 31] f_ref09_Readings_r3) (.ite (.t 31) (.seq (.reg [4] f_ref09_Readings_r4) .ret) .nop))) (.reg [1, 2, 5] f_ref09_Readings_r5)))

def f_ref09_Readings_r7 : List Abs.Op := [
  ⟨some 32, none, false, .mv (.t 1)⟩,
  ⟨some 33, none, false, .lenS (.t 32)⟩,
  ⟨some 34, none, false, .bin .geq (.t 33) (.c (.int .i64 1))⟩,
  ⟨some 35, none, false, .mv (.t 34)⟩,
  ⟨some 36, some (35, true), false, .mv (.t 1)⟩,
  ⟨some 37, some (35, true), false, .lenS (.t 36)⟩,
  ⟨some 38, some (35, true), false, .bin .leq (.t 37) (.c (.int .i64 12))⟩,
  ⟨some 39, none, false, .pick (.t 35) (.t 38) (.c (.bool false))⟩,
  ⟨some 4, none, false, .mv (.t 39)⟩]

def a_ref09_Readings : Ann := ⟨[(6, [4]), (3, [1, 2, 5]), (5, [4]), (4, [1, 2, 5, 31]), (2, [1, 2, 5, 9]), (1, [1, 2, 5]), (0, [1, 2])], [(0, [1, 2, 5])], [], [], [], [], [], []⟩
def f_ref09_Readings : Abs.Fn := ⟨2, [.t 4],
  (.seq (.reg [1, 2] f_ref09_Readings_r0) (.seq (.seq (.reg [1, 2, 5] f_ref09_Readings_r1) (.blk 0 (.loop [1, 2, 5] false f_ref09_Readings_l6))) (.seq (.reg [4] f_ref09_Readings_r7) .ret)))⟩

theorem e_ref09_Readings_r0 : type_of% f_ref09_Readings_r0.eq_1 := by_rfl f_ref09_Readings_r0.eq_1
theorem e_ref09_Readings_r1 : type_of% f_ref09_Readings_r1.eq_1 := by_rfl f_ref09_Readings_r1.eq_1
theorem e_ref09_Readings_r2 : type_of% f_ref09_Readings_r2.eq_1 := by_rfl f_ref09_Readings_r2.eq_1
theorem e_ref09_Readings_r3 : type_of% f_ref09_Readings_r3.eq_1 := by_rfl f_ref09_Readings_r3.eq_1
theorem e_ref09_Readings_r4 : type_of% f_ref09_Readings_r4.eq_1 := by_rfl f_ref09_Readings_r4.eq_1
theorem e_ref09_Readings_r5 : type_of% f_ref09_Readings_r5.eq_1 := by_rfl f_ref09_Readings_r5.eq_1
theorem e_ref09_Readings_l6 : type_of% f_ref09_Readings_l6.eq_1 := by_rfl f_ref09_Readings_l6.eq_1
theorem e_ref09_Readings_r7 : type_of% f_ref09_Readings_r7.eq_1 := by_rfl f_ref09_Readings_r7.eq_1
theorem e_ref09_Readings : type_of% f_ref09_Readings.eq_1 := by_rfl f_ref09_Readings.eq_1
theorem ok_ref09_Readings : fnC Try.prog a_ref09_Readings Try.f30 = some f_ref09_Readings := by kernel_rfl

/-! 31 fumarole/fumaroleref09.Magnitude -/
def f_ref09_Magnitude_r0 : List Abs.Op := [
  ⟨some 4, none, false, .boxi (.t 0)⟩,
  ⟨some 5, none, false, .boxi (.t 1)⟩,
  ⟨some 6, none, false, .boxi (.t 2)⟩,
  ⟨some 8, none, false, .mv (.c (.int .i64 0))⟩]

def f_ref09_Magnitude_r1 : List Abs.Op := [
  ⟨some 9, none, false, .mv (.c (.int .i64 0))⟩]

def f_ref09_Magnitude_r2 : List Abs.Op := [
  ⟨some 10, none, false, .mv (.c (.int .i64 0))⟩]

def f_ref09_Magnitude_r3 : List Abs.Op := [
  ⟨some 11, none, false, .mv (.t 10)⟩,
  ⟨some 12, none, false, .mv (.t 3)⟩,
  ⟨some 13, none, false, .lenS (.t 12)⟩,
  ⟨some 14, none, false, .bin .lss (.t 11) (.t 13)⟩]

def f_ref09_Magnitude_r4 : List Abs.Op := [
  ⟨some 17, none, true, .mv (.t 9)⟩,
  ⟨some 18, none, true, .ld true 12 (.t 4)⟩,
  ⟨some 19, none, true, .ld true 2 (.t 5)⟩,
  ⟨some 20, none, true, .ld true 3 (.t 6)⟩,
  ⟨some 21, none, true, .mv (.t 3)⟩,
  ⟨some 22, none, true, .mv (.t 10)⟩,
  ⟨some 23, none, true, .idxS 2 (.t 21) (.t 22)⟩,
  ⟨some 24, none, true, .ld true 2 (.t 23)⟩,
  ⟨some 25, none, true, .call false (.c (.fn i_ref09_One [] [])) [(.t 18), (.t 19), (.t 20), (.t 24)]⟩,
  ⟨some 26, none, false, .bin .add (.t 17) (.t 25)⟩,
  ⟨some 9, none, false, .mv (.t 26)⟩]

def f_ref09_Magnitude_r5 : List Abs.Op := [
  ⟨some 15, none, false, .mv (.t 10)⟩,
  ⟨some 16, none, false, .bin .add (.t 15) (.c (.int .i64 1))⟩,
  ⟨some 10, none, false, .mv (.t 16)⟩]

def f_ref09_Magnitude_l6 : Abs.Cmd :=
  (.seq (.seq (.reg [3, 4, 5, 6, 9, 10, 14] f_ref09_Magnitude_r3) (.ite (.t 14) .nop (.exit 0))) (.seq (.blk 1 (.reg [3, 4, 5, 6, 9, 10] f_ref09_Magnitude_r4)) (.reg [3, 4, 5, 6, 9, 10] f_ref09_Magnitude_r5)))

def f_ref09_Magnitude_r7 : List Abs.Op := [
  ⟨some 27, none, false, .mv (.t 9)⟩,
  ⟨some 28, none, false, .mv (.t 3)⟩,
  ⟨some 29, none, false, .lenS (.t 28)⟩,
  ⟨some 30, none, false, .bin .quo (.t 27) (.t 29)⟩,
  ⟨some 8, none, false, .mv (.t 30)⟩]

def a_ref09_Magnitude : Ann := ⟨[(6, [8]), (4, [3, 4, 5, 6, 9, 10]), (5, [3, 4, 5, 6, 9, 10]), (3, [3, 4, 5, 6, 9, 10, 14]), (2, [3, 4, 5, 6, 9, 10]), (1, [3, 4, 5, 6, 9]), (0, [3, 4, 5, 6])], [(0, [3, 4, 5, 6, 9, 10])], [], [], [], [], [], []⟩
def f_ref09_Magnitude : Abs.Fn := ⟨4, [.t 8],
  (.seq (.reg [3, 4, 5, 6] f_ref09_Magnitude_r0) (.seq (.reg [3, 4, 5, 6, 9] f_ref09_Magnitude_r1) (.seq (.seq (.reg [3, 4, 5, 6, 9, 10] f_ref09_Magnitude_r2) (.blk 0 (.loop [3, 4, 5, 6, 9, 10] false f_ref09_Magnitude_l6))) (.seq (.reg [8] f_ref09_Magnitude_r7) .ret))))⟩

theorem e_ref09_Magnitude_r0 : type_of% f_ref09_Magnitude_r0.eq_1 := by_rfl f_ref09_Magnitude_r0.eq_1
theorem e_ref09_Magnitude_r1 : type_of% f_ref09_Magnitude_r1.eq_1 := by_rfl f_ref09_Magnitude_r1.eq_1
theorem e_ref09_Magnitude_r2 : type_of% f_ref09_Magnitude_r2.eq_1 := by_rfl f_ref09_Magnitude_r2.eq_1
theorem e_ref09_Magnitude_r3 : type_of% f_ref09_Magnitude_r3.eq_1 := by_rfl f_ref09_Magnitude_r3.eq_1
theorem e_ref09_Magnitude_r4 : type_of% f_ref09_Magnitude_r4.eq_1 := by_rfl f_ref09_Magnitude_r4.eq_1
theorem e_ref09_Magnitude_r5 : type_of% f_ref09_Magnitude_r5.eq_1 := by_rfl f_ref09_Magnitude_r5.eq_1
theorem e_ref09_Magnitude_l6 : type_of% f_ref09_Magnitude_l6.eq_1 := by_rfl f_ref09_Magnitude_l6.eq_1
theorem e_ref09_Magnitude_r7 : type_of% f_ref09_Magnitude_r7.eq_1 := by_rfl f_ref09_Magnitude_r7.eq_1
theorem e_ref09_Magnitude : type_of% f_ref09_Magnitude.eq_1 := by_rfl f_ref09_Magnitude.eq_1
theorem ok_ref09_Magnitude : fnC Try.prog a_ref09_Magnitude Try.f31 = some f_ref09_Magnitude := by kernel_rfl

/-! 32 fumarole/tremor.Inject -/
def f_tremor_Inject_r0 : List Abs.Op := [
  ⟨some 6, none, false, .boxi (.t 2)⟩,
  ⟨some 8, none, false, .mv (.c .nils)⟩,
  ⟨some 9, none, false, .mv (.c (.int .i64 0))⟩]

def f_tremor_Inject_r1 : List Abs.Op := [
  ⟨some 10, none, false, .mv (.c (.fn i_tremor_Inject_1 [] []))⟩]

def f_tremor_Inject_r2 : List Abs.Op := [
  ⟨some 15, none, false, .mv (.t 0)⟩,
  ⟨some 16, none, false, .lenS (.t 15)⟩,
  ⟨some 17, none, false, .bin .gtr (.t 16) (.c (.int .i64 500))⟩,
  ⟨some 14, none, false, .mv (.t 17)⟩]

def f_tremor_Inject_r3 : List Abs.Op := [
  ⟨some 8, none, false, .mv (.c .nils)⟩,
  ⟨some 9, none, false, .mv (.c (.int .i64 3))⟩]

def f_tremor_Inject_r4 : List Abs.Op := [
  ⟨some 19, none, false, .mv (.t 0)⟩,
  ⟨some 20, none, false, .mv (.t 10)⟩,
  ⟨some 21, none, false, .call false (.c (.fn i_tremor_all_int [] [])) [(.t 19), (.t 20)]⟩,
  ⟨some 22, none, false, .un .not (.t 21)⟩,
  ⟨some 23, none, false, .mv (.t 22)⟩,
  ⟨some 24, some (23, false), false, .mv (.t 1)⟩,
  ⟨some 25, some (23, false), false, .lenS (.t 24)⟩,
  ⟨some 26, some (23, false), false, .mv (.t 0)⟩,
  ⟨some 27, some (23, false), false, .lenS (.t 26)⟩,
  ⟨some 28, some (23, false), false, .bin .neq (.t 25) (.t 27)⟩,
  ⟨some 29, none, false, .pick (.t 23) (.c (.bool true)) (.t 28)⟩,
  ⟨some 30, none, false, .mv (.t 29)⟩,
  ⟨some 31, some (30, false), false, .mv (.t 1)⟩,
  ⟨some 32, some (30, false), false, .call false (.c (.fn i_tremor_all_uint8 [] [])) [(.t 31), (.c (.fn i_tremor_Inject_2 [] []))]⟩,
  ⟨some 33, some (30, false), false, .un .not (.t 32)⟩,
  ⟨some 34, none, false, .pick (.t 30) (.c (.bool true)) (.t 33)⟩,
  ⟨some 35, none, false, .mv (.t 34)⟩,
  ⟨some 36, some (35, false), false, .mv (.t 10)⟩,
  ⟨some 37, some (35, false), false, .mv (.t 3)⟩,
  ⟨some 38, some (35, false), false, .call false (.t 36) [(.t 37)]⟩,
  ⟨some 39, some (35, false), false, .un .not (.t 38)⟩,
  ⟨some 40, none, false, .pick (.t 35) (.c (.bool true)) (.t 39)⟩,
  ⟨some 18, none, false, .mv (.t 40)⟩]

def f_tremor_Inject_r5 : List Abs.Op := [
  ⟨some 8, none, false, .mv (.c .nils)⟩,
  ⟨some 9, none, false, .mv (.c (.int .i64 1))⟩]

def f_tremor_Inject_r6 : List Abs.Op := [
  ⟨some 42, none, false, .idxA 3 1 (.t 6) (.c (.int .u8 0))⟩,
  ⟨some 43, none, false, .ld false 1 (.t 42)⟩,
  ⟨some 44, none, false, .bin .gtr (.t 43) (.c (.int .i64 1000))⟩,
  ⟨some 45, none, false, .mv (.t 44)⟩,
  ⟨some 46, some (45, false), false, .idxA 3 1 (.t 6) (.c (.int .u8 1))⟩,
  ⟨some 47, some (45, false), false, .ld false 1 (.t 46)⟩,
  ⟨some 48, some (45, false), false, .idxA 3 1 (.t 6) (.c (.int .u8 0))⟩,
  ⟨some 49, some (45, false), false, .ld false 1 (.t 48)⟩,
  ⟨some 50, some (45, false), false, .bin .gtr (.t 47) (.t 49)⟩,
  ⟨some 51, none, false, .pick (.t 45) (.c (.bool true)) (.t 50)⟩,
  ⟨some 52, none, false, .mv (.t 51)⟩,
  ⟨some 53, some (52, false), false, .idxA 3 1 (.t 6) (.c (.int .u8 2))⟩,
  ⟨some 54, some (52, false), false, .ld false 1 (.t 53)⟩,
  ⟨some 55, some (52, false), false, .idxA 3 1 (.t 6) (.c (.int .u8 1))⟩,
  ⟨some 56, some (52, false), false, .ld false 1 (.t 55)⟩,
  ⟨some 57, some (52, false), false, .bin .gtr (.t 54) (.t 56)⟩,
  ⟨some 58, none, false, .pick (.t 52) (.c (.bool true)) (.t 57)⟩,
  ⟨some 59, none, false, .mv (.t 58)⟩,
  ⟨some 60, some (59, false), false, .idxA 3 1 (.t 6) (.c (.int .u8 2))⟩,
  ⟨some 61, some (59, false), false, .ld false 1 (.t 60)⟩,
  ⟨some 62, some (59, false), false, .bin .lss (.t 61) (.c (.int .i64 0))⟩,
  ⟨some 63, none, false, .pick (.t 59) (.c (.bool true)) (.t 62)⟩,
  ⟨some 41, none, false, .mv (.t 63)⟩]

def f_tremor_Inject_r7 : List Abs.Op := [
  ⟨some 8, none, false, .mv (.c .nils)⟩,
  ⟨some 9, none, false, .mv (.c (.int .i64 1))⟩]

def f_tremor_Inject_r8 : List Abs.Op := [
  ⟨some 64, none, false, .mv (.t 0)⟩,
  ⟨some 65, none, false, .lenS (.t 64)⟩,
  ⟨some 66, none, false, .mks 1 8 [(.int .i64 0)] (.t 65) (.t 65)⟩,
  ⟨some 11, none, false, .mv (.t 66)⟩]

def f_tremor_Inject_r9 : List Abs.Op := [
  ⟨some 67, none, false, .mv (.t 0)⟩,
  ⟨some 68, none, false, .lenS (.t 67)⟩,
  ⟨some 69, none, false, .mv (.c (.int .i64 0))⟩]

def f_tremor_Inject_r10 : List Abs.Op := [
  ⟨some 70, none, false, .bin .lss (.t 69) (.t 68)⟩]

def f_tremor_Inject_r11 : List Abs.Op := [
  ⟨some 71, none, false, .mv (.t 69)⟩,
  ⟨some 72, none, false, .idxS 1 (.t 67) (.t 69)⟩,
  ⟨some 73, none, false, .ld false 1 (.t 72)⟩,
  ⟨some 12, none, false, .mv (.t 71)⟩,
  ⟨some 13, none, false, .mv (.t 73)⟩]

def f_tremor_Inject_r12 : List Abs.Op := [
  ⟨some 74, none, false, .mv (.t 11)⟩,
  ⟨some 75, none, false, .mv (.t 12)⟩,
  ⟨some 76, none, false, .mv (.t 13)⟩,
  ⟨some 77, none, false, .mv (.t 1)⟩,
  ⟨some 78, none, false, .mv (.t 12)⟩,
  ⟨some 79, none, false, .idxS 1 (.t 77) (.t 78)⟩,
  ⟨some 80, none, false, .ld false 1 (.t 79)⟩,
  ⟨some 81, none, false, .idxA 3 1 (.t 6) (.t 80)⟩,
  ⟨some 82, none, false, .ld false 1 (.t 81)⟩,
  ⟨some 83, none, false, .bin .mul (.t 76) (.t 82)⟩,
  ⟨some 84, none, false, .bin .quo (.t 83) (.c (.int .i64 1000))⟩,
  ⟨some 85, none, false, .idxS 1 (.t 74) (.t 75)⟩,
  ⟨none, none, false, .st [] 1 (.t 85) (.t 84)⟩]

def f_tremor_Inject_r13 : List Abs.Op := [
  ⟨some 86, none, false, .mv (.t 12)⟩,
  ⟨some 87, none, false, .bin .gtr (.t 86) (.c (.int .i64 0))⟩]

def f_tremor_Inject_r14 : List Abs.Op := [
  ⟨some 88, none, true, .mv (.t 11)⟩,
  ⟨some 89, none, true, .mv (.t 12)⟩,
  ⟨some 90, none, true, .mv (.t 11)⟩,
  ⟨some 91, none, true, .mv (.t 12)⟩,
  ⟨some 92, none, true, .idxS 1 (.t 90) (.t 91)⟩,
  ⟨some 93, none, true, .ld false 1 (.t 92)⟩,
  ⟨some 94, none, true, .mv (.t 11)⟩,
  ⟨some 95, none, true, .mv (.t 12)⟩,
  ⟨some 96, none, true, .bin .sub (.t 95) (.c (.int .i64 1))⟩,
  ⟨some 97, none, true, .idxS 1 (.t 94) (.t 96)⟩,
  ⟨some 98, none, true, .ld false 1 (.t 97)⟩,
  ⟨some 99, none, true, .mv (.t 3)⟩,
  ⟨some 100, none, true, .bin .add (.t 98) (.t 99)⟩,
  ⟨some 101, none, true, .mn (.t 93) (.t 100)⟩,
  ⟨some 102, none, false, .idxS 1 (.t 88) (.t 89)⟩,
  ⟨none, none, false, .st [] 1 (.t 102) (.t 101)⟩]

def f_tremor_Inject_r15 : List Abs.Op := [
  ⟨some 103, none, false, .bin .add (.t 69) (.c (.int .i64 1))⟩,
  ⟨some 69, none, false, .mv (.t 103)⟩]

def f_tremor_Inject_l16 : Abs.Cmd :=
  (.seq (.reg [1, 3, 6, 11, 67, 68, 69, 70] f_tremor_Inject_r10) (.seq (.ite (.t 70) .nop (.exit 1)) (.seq (.blk 2 (.seq (.reg [1, 3, 6, 11, 12, 13, 67, 68, 69] f_tremor_Inject_r11) (.seq (.reg [1, 3, 6, 11, 12, 67, 68, 69] f_tremor_Inject_r12) (.seq (.reg [1, 3, 6, 11, 12, 67, 68, 69, 87] f_tremor_Inject_r13) (.ite (.t 87) (.reg [1, 3, 6, 11, 67, 68, 69] f_tremor_Inject_r14) .nop))))) (.reg [1, 3, 6, 11, 67, 68, 69] f_tremor_Inject_r15))))

def f_tremor_Inject_r17 : List Abs.Op := [
  ⟨some 104, none, false, .mv (.t 11)⟩,
  ⟨some 8, none, false, .mv (.t 104)⟩,
  ⟨some 9, none, false, .mv (.c (.int .i64 0))⟩]

def a_tremor_Inject : Ann := ⟨[(16, [8, 9]), (15, [1, 3, 6, 11, 67, 68, 69]), (14, [1, 3, 6, 11, 67, 68, 69]), (13, [1, 3, 6, 11, 12, 67, 68, 69, 87]), (12, [1, 3, 6, 11, 12, 67, 68, 69]), (11, [1, 3, 6, 11, 12, 13, 67, 68, 69]), (10, [1, 3, 6, 11, 67, 68, 69, 70]), (9, [1, 3, 6, 11, 67, 68, 69]), (8, [0, 1, 3, 6, 11]), (3, [8, 9]), (5, [8, 9]), (7, [8, 9]), (6, [0, 1, 3, 6, 41]), (4, [0, 1, 3, 6, 18]), (2, [0, 1, 3, 6, 10, 14]), (1, [0, 1, 3, 6, 10]), (0, [0, 1, 3, 6])], [(1, [1, 3, 6, 11, 67, 68, 69])], [], [], [], [], [], []⟩
def f_tremor_Inject : Abs.Fn := ⟨4, [.t 8, .t 9],
  (.seq (.reg [0, 1, 3, 6] f_tremor_Inject_r0) (.seq (.reg [0, 1, 3, 6, 10] f_tremor_Inject_r1) (.seq (.blk 0 (.seq (.reg [0, 1, 3, 6, 10, 14] f_tremor_Inject_r2) (.ite (.t 14) (.seq (.reg [8, 9] f_tremor_Inject_r3) .ret) (.seq (.reg [0, 1, 3, 6, 18] f_tremor_Inject_r4) (.ite (.t 18) (.seq (.reg [8, 9] f_tremor_Inject_r5) .ret) (.seq (.reg [0, 1, 3, 6, 41] f_tremor_Inject_r6) (.ite (.t 41) (.seq (.reg [8, 9] f_tremor_Inject_r7) .ret) .nop))))))) (.seq (.reg [0, 1, 3, 6, 11] f_tremor_Inject_r8) (.seq (.seq (.reg [1, 3, 6, 11, 67, 68, 69] f_tremor_Inject_r9) (.blk 1 (.loop [1, 3, 6, 11, 67, 68, 69] false f_tremor_Inject_l16))) (.seq (.reg [8, 9] f_tremor_Inject_r17) .ret))))))⟩

theorem e_tremor_Inject_r0 : type_of% f_tremor_Inject_r0.eq_1 := by_rfl f_tremor_Inject_r0.eq_1
theorem e_tremor_Inject_r1 : type_of% f_tremor_Inject_r1.eq_1 := by_rfl f_tremor_Inject_r1.eq_1
theorem e_tremor_Inject_r2 : type_of% f_tremor_Inject_r2.eq_1 := by_rfl f_tremor_Inject_r2.eq_1
theorem e_tremor_Inject_r3 : type_of% f_tremor_Inject_r3.eq_1 := by_rfl f_tremor_Inject_r3.eq_1
theorem e_tremor_Inject_r4 : type_of% f_tremor_Inject_r4.eq_1 := by_rfl f_tremor_Inject_r4.eq_1
theorem e_tremor_Inject_r5 : type_of% f_tremor_Inject_r5.eq_1 := by_rfl f_tremor_Inject_r5.eq_1
theorem e_tremor_Inject_r6 : type_of% f_tremor_Inject_r6.eq_1 := by_rfl f_tremor_Inject_r6.eq_1
theorem e_tremor_Inject_r7 : type_of% f_tremor_Inject_r7.eq_1 := by_rfl f_tremor_Inject_r7.eq_1
theorem e_tremor_Inject_r8 : type_of% f_tremor_Inject_r8.eq_1 := by_rfl f_tremor_Inject_r8.eq_1
theorem e_tremor_Inject_r9 : type_of% f_tremor_Inject_r9.eq_1 := by_rfl f_tremor_Inject_r9.eq_1
theorem e_tremor_Inject_r10 : type_of% f_tremor_Inject_r10.eq_1 := by_rfl f_tremor_Inject_r10.eq_1
theorem e_tremor_Inject_r11 : type_of% f_tremor_Inject_r11.eq_1 := by_rfl f_tremor_Inject_r11.eq_1
theorem e_tremor_Inject_r12 : type_of% f_tremor_Inject_r12.eq_1 := by_rfl f_tremor_Inject_r12.eq_1
theorem e_tremor_Inject_r13 : type_of% f_tremor_Inject_r13.eq_1 := by_rfl f_tremor_Inject_r13.eq_1
theorem e_tremor_Inject_r14 : type_of% f_tremor_Inject_r14.eq_1 := by_rfl f_tremor_Inject_r14.eq_1
theorem e_tremor_Inject_r15 : type_of% f_tremor_Inject_r15.eq_1 := by_rfl f_tremor_Inject_r15.eq_1
theorem e_tremor_Inject_l16 : type_of% f_tremor_Inject_l16.eq_1 := by_rfl f_tremor_Inject_l16.eq_1
theorem e_tremor_Inject_r17 : type_of% f_tremor_Inject_r17.eq_1 := by_rfl f_tremor_Inject_r17.eq_1
theorem e_tremor_Inject : type_of% f_tremor_Inject.eq_1 := by_rfl f_tremor_Inject.eq_1
theorem ok_tremor_Inject : fnC Try.prog a_tremor_Inject Try.f32 = some f_tremor_Inject := by kernel_rfl

/-! 33 fumarole/fumaroleref09.RightPlan -/
def f_ref09_RightPlan_r0 : List Abs.Op := [
  ⟨some 6, none, false, .boxi (.t 2)⟩,
  ⟨some 8, none, false, .mv (.c (.bool false))⟩]

def f_ref09_RightPlan_r1 : List Abs.Op := [
  ⟨some 10, none, false, .mv (.t 1)⟩,
  ⟨some 11, none, false, .lenS (.t 10)⟩,
  ⟨some 12, none, false, .mv (.t 0)⟩,
  ⟨some 13, none, false, .lenS (.t 12)⟩,
  ⟨some 14, none, false, .bin .neq (.t 11) (.t 13)⟩,
  ⟨some 15, none, false, .mv (.t 14)⟩,
  ⟨some 16, some (15, false), false, .mv (.t 3)⟩,
  ⟨some 17, some (15, false), false, .call false (.c (.fn i_ref09_In [] [])) [(.t 16), (.c (.int .i64 0)), (.c (.int .i64 1000000000))]⟩,
  ⟨some 18, some (15, false), false, .un .not (.t 17)⟩,
  ⟨some 19, none, false, .pick (.t 15) (.c (.bool true)) (.t 18)⟩,
  ⟨some 20, none, false, .mv (.t 19)⟩,
  ⟨some 21, some (20, false), false, .idxA 3 1 (.t 6) (.c (.int .i64 0))⟩,
  ⟨some 22, some (20, false), false, .ld false 1 (.t 21)⟩,
  ⟨some 23, some (20, false), false, .bin .gtr (.t 22) (.c (.int .i64 1000))⟩,
  ⟨some 24, none, false, .pick (.t 20) (.c (.bool true)) (.t 23)⟩,
  ⟨some 25, none, false, .mv (.t 24)⟩,
  ⟨some 26, some (25, false), false, .idxA 3 1 (.t 6) (.c (.int .i64 2))⟩,
  ⟨some 27, some (25, false), false, .ld false 1 (.t 26)⟩,
  ⟨some 28, some (25, false), false, .bin .lss (.t 27) (.c (.int .i64 0))⟩,
  ⟨some 29, none, false, .pick (.t 25) (.c (.bool true)) (.t 28)⟩,
  ⟨some 30, none, false, .mv (.t 29)⟩,
  ⟨some 31, some (30, false), false, .idxA 3 1 (.t 6) (.c (.int .i64 0))⟩,
  ⟨some 32, some (30, false), false, .ld false 1 (.t 31)⟩,
  ⟨some 33, some (30, false), false, .idxA 3 1 (.t 6) (.c (.int .i64 1))⟩,
  ⟨some 34, some (30, false), false, .ld false 1 (.t 33)⟩,
  ⟨some 35, some (30, false), false, .bin .lss (.t 32) (.t 34)⟩,
  ⟨some 36, none, false, .pick (.t 30) (.c (.bool true)) (.t 35)⟩,
  ⟨some 37, none, false, .mv (.t 36)⟩,
  ⟨some 38, some (37, false), false, .idxA 3 1 (.t 6) (.c (.int .i64 1))⟩,
  ⟨some 39, some (37, false), false, .ld false 1 (.t 38)⟩,
  ⟨some 40, some (37, false), false, .idxA 3 1 (.t 6) (.c (.int .i64 2))⟩,
  ⟨some 41, some (37, false), false, .ld false 1 (.t 40)⟩,
  ⟨some 42, some (37, false), false, .bin .lss (.t 39) (.t 41)⟩,
  ⟨some 43, none, false, .pick (.t 37) (.c (.bool true)) (.t 42)⟩]

def f_ref09_RightPlan_r2 : List Abs.Op := [
  ⟨some 8, none, false, .mv (.c (.bool false))⟩]

def f_ref09_RightPlan_r3 : List Abs.Op := [
  ⟨some 9, none, false, .mv (.c (.int .i64 0))⟩]

def f_ref09_RightPlan_r4 : List Abs.Op := [
  ⟨some 44, none, false, .mv (.t 9)⟩,
  ⟨some 45, none, false, .mv (.t 0)⟩,
  ⟨some 46, none, false, .lenS (.t 45)⟩,
  ⟨some 47, none, false, .bin .lss (.t 44) (.t 46)⟩]

def f_ref09_RightPlan_r5 : List Abs.Op := [
  ⟨some 50, none, false, .mv (.t 0)⟩,
  ⟨some 51, none, false, .mv (.t 9)⟩,
  ⟨some 52, none, false, .idxS 1 (.t 50) (.t 51)⟩,
  ⟨some 53, none, false, .ld false 1 (.t 52)⟩,
  ⟨some 54, none, false, .call false (.c (.fn i_ref09_In [] [])) [(.t 53), (.c (.int .i64 0)), (.c (.int .i64 1000000000))]⟩,
  ⟨some 55, none, false, .un .not (.t 54)⟩,
  ⟨some 56, none, false, .mv (.t 55)⟩,
  ⟨some 57, some (56, false), false, .mv (.t 1)⟩,
  ⟨some 58, some (56, false), false, .mv (.t 9)⟩,
  ⟨some 59, some (56, false), false, .idxS 1 (.t 57) (.t 58)⟩,
  ⟨some 60, some (56, false), false, .ld false 1 (.t 59)⟩,
  ⟨some 61, some (56, false), false, .bin .gtr (.t 60) (.c (.int .u8 2))⟩,
  ⟨some 62, none, false, .pick (.t 56) (.c (.bool true)) (.t 61)⟩]

def f_ref09_RightPlan_r6 : List Abs.Op := [
  ⟨some 8, none, false, .mv (.c (.bool false))⟩]

def f_ref09_RightPlan_r7 : List Abs.Op := [
  ⟨some 48, none, false, .mv (.t 9)⟩,
  ⟨some 49, none, false, .bin .add (.t 48) (.c (.int .i64 1))⟩,
  ⟨some 9, none, false, .mv (.t 49)⟩]

def f_ref09_RightPlan_l8 : Abs.Cmd :=
  (.seq (.seq (.reg [0, 1, 9, 47] f_ref09_RightPlan_r4) (.ite (.t 47) .nop (.exit 0))) (.seq (.blk 1 (.seq (.reg [0, 1, 9, 62] f_ref09_RightPlan_r5) (.ite (.t 62) (.seq (.reg [8] f_ref09_RightPlan_r6) .ret) .nop))) (.reg [0, 1, 9] f_ref09_RightPlan_r7)))

def f_ref09_RightPlan_r9 : List Abs.Op := [
  ⟨some 8, none, false, .mv (.c (.bool true))⟩]

def a_ref09_RightPlan : Ann := ⟨[(8, [8]), (5, [0, 1, 9]), (7, [8]), (6, [0, 1, 9, 62]), (4, [0, 1, 9, 47]), (3, [0, 1, 9]), (2, [8]), (1, [0, 1, 43]), (0, [0, 1, 3, 6])], [(0, [0, 1, 9])], [], [], [], [], [], []⟩
def f_ref09_RightPlan : Abs.Fn := ⟨4, [.t 8],
  (.seq (.reg [0, 1, 3, 6] f_ref09_RightPlan_r0) (.seq (.seq (.reg [0, 1, 43] f_ref09_RightPlan_r1) (.ite (.t 43) (.seq (.reg [8] f_ref09_RightPlan_r2) .ret) .nop)) (.seq (.seq (.reg [0, 1, 9] f_ref09_RightPlan_r3) (.blk 0 (.loop [0, 1, 9] false f_ref09_RightPlan_l8))) (.seq (.reg [8] f_ref09_RightPlan_r9) .ret))))⟩

theorem e_ref09_RightPlan_r0 : type_of% f_ref09_RightPlan_r0.eq_1 := by_rfl f_ref09_RightPlan_r0.eq_1
theorem e_ref09_RightPlan_r1 : type_of% f_ref09_RightPlan_r1.eq_1 := by_rfl f_ref09_RightPlan_r1.eq_1
theorem e_ref09_RightPlan_r2 : type_of% f_ref09_RightPlan_r2.eq_1 := by_rfl f_ref09_RightPlan_r2.eq_1
theorem e_ref09_RightPlan_r3 : type_of% f_ref09_RightPlan_r3.eq_1 := by_rfl f_ref09_RightPlan_r3.eq_1
theorem e_ref09_RightPlan_r4 : type_of% f_ref09_RightPlan_r4.eq_1 := by_rfl f_ref09_RightPlan_r4.eq_1
theorem e_ref09_RightPlan_r5 : type_of% f_ref09_RightPlan_r5.eq_1 := by_rfl f_ref09_RightPlan_r5.eq_1
theorem e_ref09_RightPlan_r6 : type_of% f_ref09_RightPlan_r6.eq_1 := by_rfl f_ref09_RightPlan_r6.eq_1
theorem e_ref09_RightPlan_r7 : type_of% f_ref09_RightPlan_r7.eq_1 := by_rfl f_ref09_RightPlan_r7.eq_1
theorem e_ref09_RightPlan_l8 : type_of% f_ref09_RightPlan_l8.eq_1 := by_rfl f_ref09_RightPlan_l8.eq_1
theorem e_ref09_RightPlan_r9 : type_of% f_ref09_RightPlan_r9.eq_1 := by_rfl f_ref09_RightPlan_r9.eq_1
theorem e_ref09_RightPlan : type_of% f_ref09_RightPlan.eq_1 := by_rfl f_ref09_RightPlan.eq_1
theorem ok_ref09_RightPlan : fnC Try.prog a_ref09_RightPlan Try.f33 = some f_ref09_RightPlan := by kernel_rfl

/-! 34 fumarole/fumarolelaw09.ints -/
def f_law09_ints_r0 : List Abs.Op := [
  ⟨some 4, none, false, .mv (.c (.bool false))⟩]

def f_law09_ints_r1 : List Abs.Op := [
  ⟨some 6, none, false, .mv (.t 0)⟩,
  ⟨some 7, none, false, .lenS (.t 6)⟩,
  ⟨some 8, none, false, .mv (.t 1)⟩,
  ⟨some 9, none, false, .lenS (.t 8)⟩,
  ⟨some 10, none, false, .bin .neq (.t 7) (.t 9)⟩]

def f_law09_ints_r2 : List Abs.Op := [
  ⟨some 4, none, false, .mv (.c (.bool false))⟩]

def f_law09_ints_r3 : List Abs.Op := [
  ⟨some 5, none, false, .mv (.c (.int .i64 0))⟩]

def f_law09_ints_r4 : List Abs.Op := [
  ⟨some 11, none, false, .mv (.t 5)⟩,
  ⟨some 12, none, false, .mv (.t 0)⟩,
  ⟨some 13, none, false, .lenS (.t 12)⟩,
  ⟨some 14, none, false, .bin .lss (.t 11) (.t 13)⟩]

def f_law09_ints_r5 : List Abs.Op := [
  ⟨some 17, none, true, .mv (.t 0)⟩,
  ⟨some 18, none, true, .mv (.t 5)⟩,
  ⟨some 19, none, true, .idxS 1 (.t 17) (.t 18)⟩,
  ⟨some 20, none, true, .ld false 1 (.t 19)⟩,
  ⟨some 21, none, true, .mv (.t 1)⟩,
  ⟨some 22, none, true, .mv (.t 5)⟩,
  ⟨some 23, none, true, .idxS 1 (.t 21) (.t 22)⟩,
  ⟨some 24, none, true, .ld false 1 (.t 23)⟩,
  ⟨some 25, none, false, .bin .neq (.t 20) (.t 24)⟩]

def f_law09_ints_r6 : List Abs.Op := [
  ⟨some 4, none, false, .mv (.c (.bool false))⟩]

def f_law09_ints_r7 : List Abs.Op := [
  ⟨some 15, none, false, .mv (.t 5)⟩,
  ⟨some 16, none, false, .bin .add (.t 15) (.c (.int .i64 1))⟩,
  ⟨some 5, none, false, .mv (.t 16)⟩]

def f_law09_ints_l8 : Abs.Cmd :=
  (.seq (.seq (.reg [0, 1, 5, 14] f_law09_ints_r4) (.ite (.t 14) .nop (.exit 0))) (.seq (.blk 1 (.seq (.reg [0, 1, 5, 25] f_law09_ints_r5) (.ite (.t 25) (.seq (.reg [4] f_law09_ints_r6) .ret) .nop))) (.reg [0, 1, 5] f_law09_ints_r7)))

def f_law09_ints_r9 : List Abs.Op := [
  ⟨some 4, none, false, .mv (.c (.bool true))⟩]

def a_law09_ints : Ann := ⟨[(8, [4]), (5, [0, 1, 5]), (7, [4]), (6, [0, 1, 5, 25]), (4, [0, 1, 5, 14]), (3, [0, 1, 5]), (2, [4]), (1, [0, 1, 10]), (0, [0, 1])], [(0, [0, 1, 5])], [], [], [], [], [], []⟩
def f_law09_ints : Abs.Fn := ⟨2, [.t 4],
  (.seq (.reg [0, 1] f_law09_ints_r0) (.seq (.seq (.reg [0, 1, 10] f_law09_ints_r1) (.ite (.t 10) (.seq (.reg [4] f_law09_ints_r2) .ret) .nop)) (.seq (.seq (.reg [0, 1, 5] f_law09_ints_r3) (.blk 0 (.loop [0, 1, 5] false f_law09_ints_l8))) (.seq (.reg [4] f_law09_ints_r9) .ret))))⟩

theorem e_law09_ints_r0 : type_of% f_law09_ints_r0.eq_1 := by_rfl f_law09_ints_r0.eq_1
theorem e_law09_ints_r1 : type_of% f_law09_ints_r1.eq_1 := by_rfl f_law09_ints_r1.eq_1
theorem e_law09_ints_r2 : type_of% f_law09_ints_r2.eq_1 := by_rfl f_law09_ints_r2.eq_1
theorem e_law09_ints_r3 : type_of% f_law09_ints_r3.eq_1 := by_rfl f_law09_ints_r3.eq_1
theorem e_law09_ints_r4 : type_of% f_law09_ints_r4.eq_1 := by_rfl f_law09_ints_r4.eq_1
theorem e_law09_ints_r5 : type_of% f_law09_ints_r5.eq_1 := by_rfl f_law09_ints_r5.eq_1
theorem e_law09_ints_r6 : type_of% f_law09_ints_r6.eq_1 := by_rfl f_law09_ints_r6.eq_1
theorem e_law09_ints_r7 : type_of% f_law09_ints_r7.eq_1 := by_rfl f_law09_ints_r7.eq_1
theorem e_law09_ints_l8 : type_of% f_law09_ints_l8.eq_1 := by_rfl f_law09_ints_l8.eq_1
theorem e_law09_ints_r9 : type_of% f_law09_ints_r9.eq_1 := by_rfl f_law09_ints_r9.eq_1
theorem e_law09_ints : type_of% f_law09_ints.eq_1 := by_rfl f_law09_ints.eq_1
theorem ok_law09_ints : fnC Try.prog a_law09_ints Try.f34 = some f_law09_ints := by kernel_rfl

/-! 35 fumarole/fumaroleref09.Inject -/
def f_ref09_Inject_r0 : List Abs.Op := [
  ⟨some 6, none, false, .boxi (.t 2)⟩,
  ⟨some 8, none, false, .mv (.c .nils)⟩]

def f_ref09_Inject_r1 : List Abs.Op := [
  ⟨some 9, none, false, .nilb 1⟩]

def f_ref09_Inject_r2 : List Abs.Op := [
  ⟨some 10, none, false, .mv (.c (.int .i64 0))⟩]

def f_ref09_Inject_r3 : List Abs.Op := [
  ⟨some 12, none, false, .mv (.t 10)⟩,
  ⟨some 13, none, false, .mv (.t 0)⟩,
  ⟨some 14, none, false, .lenS (.t 13)⟩,
  ⟨some 15, none, false, .bin .lss (.t 12) (.t 14)⟩]

def f_ref09_Inject_r4 : List Abs.Op := [
  ⟨some 18, none, true, .mv (.t 0)⟩,
  ⟨some 19, none, true, .mv (.t 10)⟩,
  ⟨some 20, none, true, .idxS 1 (.t 18) (.t 19)⟩,
  ⟨some 21, none, true, .ld false 1 (.t 20)⟩,
  ⟨some 22, none, true, .mv (.t 1)⟩,
  ⟨some 23, none, true, .mv (.t 10)⟩,
  ⟨some 24, none, true, .idxS 1 (.t 22) (.t 23)⟩,
  ⟨some 25, none, true, .ld false 1 (.t 24)⟩,
  ⟨some 26, none, true, .idxA 3 1 (.t 6) (.t 25)⟩,
  ⟨some 27, none, true, .ld false 1 (.t 26)⟩,
  ⟨some 28, none, false, .bin .mul (.t 21) (.t 27)⟩,
  ⟨some 29, none, false, .bin .quo (.t 28) (.c (.int .i64 1000))⟩,
  ⟨some 11, none, false, .mv (.t 29)⟩]

def f_ref09_Inject_r5 : List Abs.Op := [
  ⟨some 30, none, false, .mv (.t 10)⟩,
  ⟨some 31, none, false, .bin .gtr (.t 30) (.c (.int .i64 0))⟩]

def f_ref09_Inject_r6 : List Abs.Op := [
  ⟨some 32, none, false, .mv (.t 11)⟩,
  ⟨some 33, none, false, .mv (.t 9)⟩,
  ⟨some 34, none, false, .mv (.t 10)⟩,
  ⟨some 35, none, false, .bin .sub (.t 34) (.c (.int .i64 1))⟩,
  ⟨some 36, none, false, .idxS 1 (.t 33) (.t 35)⟩,
  ⟨some 37, none, false, .ld false 1 (.t 36)⟩,
  ⟨some 38, none, false, .mv (.t 3)⟩,
  ⟨some 39, none, false, .bin .add (.t 37) (.t 38)⟩,
  ⟨some 40, none, false, .mn (.t 32) (.t 39)⟩,
  ⟨some 11, none, false, .mv (.t 40)⟩]

def f_ref09_Inject_r7 : List Abs.Op := [
  ⟨some 41, none, false, .mv (.t 9)⟩,
  ⟨some 42, none, false, .mv (.t 11)⟩,
  ⟨some 43, none, false, .bsi 1 1 [(.int .i64 0)] [(0, 1, (.t 42))]⟩,
  ⟨some 44, none, false, .app 1 8 (.t 41) (.t 43)⟩,
  ⟨some 9, none, false, .mv (.t 44)⟩]

def f_ref09_Inject_r8 : List Abs.Op := [
  ⟨some 16, none, false, .mv (.t 10)⟩,
  ⟨some 17, none, false, .bin .add (.t 16) (.c (.int .i64 1))⟩,
  ⟨some 10, none, false, .mv (.t 17)⟩]

def f_ref09_Inject_l9 : Abs.Cmd :=
  (.seq (.seq (.reg [0, 1, 3, 6, 9, 10, 15] f_ref09_Inject_r3) (.ite (.t 15) .nop (.exit 0))) (.seq (.blk 1 (.seq (.reg [0, 1, 3, 6, 9, 10, 11] f_ref09_Inject_r4) (.seq (.seq (.reg [0, 1, 3, 6, 9, 10, 11, 31] f_ref09_Inject_r5) (.ite (.t 31) (.reg [0, 1, 3, 6, 9, 10, 11] f_ref09_Inject_r6) .nop)) (.reg [0, 1, 3, 6, 9, 10] f_ref09_Inject_r7)))) (.reg [0, 1, 3, 6, 9, 10] f_ref09_Inject_r8)))

def f_ref09_Inject_r10 : List Abs.Op := [
  ⟨some 45, none, false, .mv (.t 9)⟩,
  ⟨some 8, none, false, .mv (.t 45)⟩]

def a_ref09_Inject : Ann := ⟨[(9, [8]), (4, [0, 1, 3, 6, 9, 10]), (8, [0, 1, 3, 6, 9, 10]), (7, [0, 1, 3, 6, 9, 10, 11]), (6, [0, 1, 3, 6, 9, 10, 11, 31]), (5, [0, 1, 3, 6, 9, 10, 11]), (3, [0, 1, 3, 6, 9, 10, 15]), (2, [0, 1, 3, 6, 9, 10]), (1, [0, 1, 3, 6, 9]), (0, [0, 1, 3, 6])], [(0, [0, 1, 3, 6, 9, 10])], [], [9], [], [], [], []⟩
def f_ref09_Inject : Abs.Fn := ⟨4, [.t 8],
  (.seq (.reg [0, 1, 3, 6] f_ref09_Inject_r0) (.seq (.reg [0, 1, 3, 6, 9] f_ref09_Inject_r1) (.seq (.seq (.reg [0, 1, 3, 6, 9, 10] f_ref09_Inject_r2) (.blk 0 (.loop [0, 1, 3, 6, 9, 10] false f_ref09_Inject_l9))) (.seq (.reg [8] f_ref09_Inject_r10) .ret))))⟩

theorem e_ref09_Inject_r0 : type_of% f_ref09_Inject_r0.eq_1 := by_rfl f_ref09_Inject_r0.eq_1
theorem e_ref09_Inject_r1 : type_of% f_ref09_Inject_r1.eq_1 := by_rfl f_ref09_Inject_r1.eq_1
theorem e_ref09_Inject_r2 : type_of% f_ref09_Inject_r2.eq_1 := by_rfl f_ref09_Inject_r2.eq_1
theorem e_ref09_Inject_r3 : type_of% f_ref09_Inject_r3.eq_1 := by_rfl f_ref09_Inject_r3.eq_1
theorem e_ref09_Inject_r4 : type_of% f_ref09_Inject_r4.eq_1 := by_rfl f_ref09_Inject_r4.eq_1
theorem e_ref09_Inject_r5 : type_of% f_ref09_Inject_r5.eq_1 := by_rfl f_ref09_Inject_r5.eq_1
theorem e_ref09_Inject_r6 : type_of% f_ref09_Inject_r6.eq_1 := by_rfl f_ref09_Inject_r6.eq_1
theorem e_ref09_Inject_r7 : type_of% f_ref09_Inject_r7.eq_1 := by_rfl f_ref09_Inject_r7.eq_1
theorem e_ref09_Inject_r8 : type_of% f_ref09_Inject_r8.eq_1 := by_rfl f_ref09_Inject_r8.eq_1
theorem e_ref09_Inject_l9 : type_of% f_ref09_Inject_l9.eq_1 := by_rfl f_ref09_Inject_l9.eq_1
theorem e_ref09_Inject_r10 : type_of% f_ref09_Inject_r10.eq_1 := by_rfl f_ref09_Inject_r10.eq_1
theorem e_ref09_Inject : type_of% f_ref09_Inject.eq_1 := by_rfl f_ref09_Inject.eq_1
theorem ok_ref09_Inject : fnC Try.prog a_ref09_Inject Try.f35 = some f_ref09_Inject := by kernel_rfl

/-! 36 fumarole/fumaroleref09.In -/
def f_ref09_In_r0 : List Abs.Op := [
  ⟨some 6, none, false, .mv (.c (.bool false))⟩]

def f_ref09_In_r1 : List Abs.Op := [
  ⟨some 7, none, false, .mv (.t 0)⟩,
  ⟨some 8, none, false, .mv (.t 1)⟩,
  ⟨some 9, none, false, .bin .geq (.t 7) (.t 8)⟩,
  ⟨some 10, none, false, .mv (.t 9)⟩,
  ⟨some 11, some (10, true), false, .mv (.t 0)⟩,
  ⟨some 12, some (10, true), false, .mv (.t 2)⟩,
  ⟨some 13, some (10, true), false, .bin .leq (.t 11) (.t 12)⟩,
  ⟨some 14, none, false, .pick (.t 10) (.t 13) (.c (.bool false))⟩,
  ⟨some 6, none, false, .mv (.t 14)⟩]

def a_ref09_In : Ann := ⟨[(1, [6]), (0, [0, 1, 2])], [], [], [], [], [], [], []⟩
def f_ref09_In : Abs.Fn := ⟨3, [.t 6],
  (.seq (.reg [0, 1, 2] f_ref09_In_r0) (.seq (.reg [6] f_ref09_In_r1) .ret))⟩

theorem e_ref09_In_r0 : type_of% f_ref09_In_r0.eq_1 := by_rfl f_ref09_In_r0.eq_1
theorem e_ref09_In_r1 : type_of% f_ref09_In_r1.eq_1 := by_rfl f_ref09_In_r1.eq_1
theorem e_ref09_In : type_of% f_ref09_In.eq_1 := by_rfl f_ref09_In.eq_1
theorem ok_ref09_In : fnC Try.prog a_ref09_In Try.f36 = some f_ref09_In := by kernel_rfl

/-! 37 fumarole/fumaroleref09.Lattice -/
def f_ref09_Lattice_r0 : List Abs.Op := [
  ⟨some 1, none, false, .boxi (.t 0)⟩,
  ⟨some 2, none, false, .mv (.c .nils)⟩]

def f_ref09_Lattice_r1 : List Abs.Op := [
  ⟨some 3, none, false, .nilb 3⟩]

def f_ref09_Lattice_r2 : List Abs.Op := [
  ⟨some 7, none, false, .fadr 5 (.t 1)⟩,
  ⟨some 8, none, false, .fadr 0 (.t 7)⟩,
  ⟨some 9, none, false, .ld false 1 (.t 8)⟩,
  ⟨some 4, none, false, .mv (.t 9)⟩]

def f_ref09_Lattice_r3 : List Abs.Op := [
  ⟨some 10, none, false, .mv (.t 4)⟩,
  ⟨some 11, none, false, .fadr 8 (.t 1)⟩,
  ⟨some 12, none, false, .fadr 0 (.t 11)⟩,
  ⟨some 13, none, false, .ld false 1 (.t 12)⟩,
  ⟨some 14, none, false, .bin .leq (.t 10) (.t 13)⟩]

def f_ref09_Lattice_r4 : List Abs.Op := [
  ⟨some 19, none, false, .fadr 5 (.t 1)⟩,
  ⟨some 20, none, false, .fadr 1 (.t 19)⟩,
  ⟨some 21, none, false, .ld false 1 (.t 20)⟩,
  ⟨some 5, none, false, .mv (.t 21)⟩]

def f_ref09_Lattice_r5 : List Abs.Op := [
  ⟨some 22, none, false, .mv (.t 5)⟩,
  ⟨some 23, none, false, .fadr 8 (.t 1)⟩,
  ⟨some 24, none, false, .fadr 1 (.t 23)⟩,
  ⟨some 25, none, false, .ld false 1 (.t 24)⟩,
  ⟨some 26, none, false, .bin .leq (.t 22) (.t 25)⟩]

def f_ref09_Lattice_r6 : List Abs.Op := [
  ⟨some 31, none, false, .fadr 5 (.t 1)⟩,
  ⟨some 32, none, false, .fadr 2 (.t 31)⟩,
  ⟨some 33, none, false, .ld false 1 (.t 32)⟩,
  ⟨some 6, none, false, .mv (.t 33)⟩]

def f_ref09_Lattice_r7 : List Abs.Op := [
  ⟨some 34, none, false, .mv (.t 6)⟩,
  ⟨some 35, none, false, .fadr 8 (.t 1)⟩,
  ⟨some 36, none, false, .fadr 2 (.t 35)⟩,
  ⟨some 37, none, false, .ld false 1 (.t 36)⟩,
  ⟨some 38, none, false, .bin .leq (.t 34) (.t 37)⟩]

def f_ref09_Lattice_r8 : List Abs.Op := [
  ⟨some 43, none, false, .mv (.t 3)⟩,
  ⟨some 44, none, false, .mv (.t 4)⟩,
  ⟨some 45, none, false, .mv (.t 5)⟩,
  ⟨some 46, none, false, .mv (.t 6)⟩,
  ⟨some 47, none, false, .bld [(.int .i64 0), (.int .i64 0), (.int .i64 0)] [(0, 1, (.t 44)), (1, 1, (.t 45)), (2, 1, (.t 46))]⟩,
  ⟨some 48, none, false, .bsi 1 3 [(.int .i64 0), (.int .i64 0), (.int .i64 0)] [(0, 3, (.t 47))]⟩,
  ⟨some 49, none, false, .app 3 24 (.t 43) (.t 48)⟩,
  ⟨some 3, none, false, .mv (.t 49)⟩]

def f_ref09_Lattice_r9 : List Abs.Op := [
  ⟨some 39, none, false, .mv (.t 6)⟩,
  ⟨some 40, none, false, .fadr 11 (.t 1)⟩,
  ⟨some 41, none, false, .ld false 1 (.t 40)⟩,
  ⟨some 42, none, false, .bin .add (.t 39) (.t 41)⟩,
  ⟨some 6, none, false, .mv (.t 42)⟩]

def f_ref09_Lattice_l10 : Abs.Cmd :=
  (.seq (.seq (.reg [1, 3, 4, 5, 6, 38] f_ref09_Lattice_r7) (.ite (.t 38) .nop (.exit 4))) (.seq (.blk 5 (.reg [1, 3, 4, 5, 6] f_ref09_Lattice_r8)) (.reg [1, 3, 4, 5, 6] f_ref09_Lattice_r9)))

def f_ref09_Lattice_r11 : List Abs.Op := [
  ⟨some 27, none, false, .mv (.t 5)⟩,
  ⟨some 28, none, false, .fadr 11 (.t 1)⟩,
  ⟨some 29, none, false, .ld false 1 (.t 28)⟩,
  ⟨some 30, none, false, .bin .add (.t 27) (.t 29)⟩,
  ⟨some 5, none, false, .mv (.t 30)⟩]

def f_ref09_Lattice_l12 : Abs.Cmd :=
  (.seq (.seq (.reg [1, 3, 4, 5, 26] f_ref09_Lattice_r5) (.ite (.t 26) .nop (.exit 2))) (.seq (.blk 3 (.seq (.reg [1, 3, 4, 5, 6] f_ref09_Lattice_r6) (.blk 4 (.loop [1, 3, 4, 5, 6] false f_ref09_Lattice_l10)))) (.reg [1, 3, 4, 5] f_ref09_Lattice_r11)))

def f_ref09_Lattice_r13 : List Abs.Op := [
  ⟨some 15, none, false, .mv (.t 4)⟩,
  ⟨some 16, none, false, .fadr 11 (.t 1)⟩,
  ⟨some 17, none, false, .ld false 1 (.t 16)⟩,
  ⟨some 18, none, false, .bin .add (.t 15) (.t 17)⟩,
  ⟨some 4, none, false, .mv (.t 18)⟩]

def f_ref09_Lattice_l14 : Abs.Cmd :=
  (.seq (.seq (.reg [1, 3, 4, 14] f_ref09_Lattice_r3) (.ite (.t 14) .nop (.exit 0))) (.seq (.blk 1 (.seq (.reg [1, 3, 4, 5] f_ref09_Lattice_r4) (.blk 2 (.loop [1, 3, 4, 5] false f_ref09_Lattice_l12)))) (.reg [1, 3, 4] f_ref09_Lattice_r13)))

def f_ref09_Lattice_r15 : List Abs.Op := [
  ⟨some 50, none, false, .mv (.t 3)⟩,
  ⟨some 2, none, false, .mv (.t 50)⟩]

def a_ref09_Lattice : Ann := ⟨[(12, [2]), (4, [1, 3, 4]), (7, [1, 3, 4, 5]), (10, [1, 3, 4, 5, 6]), (11, [1, 3, 4, 5, 6]), (9, [1, 3, 4, 5, 6, 38]), (8, [1, 3, 4, 5, 6]), (6, [1, 3, 4, 5, 26]), (5, [1, 3, 4, 5]), (3, [1, 3, 4, 14]), (2, [1, 3, 4]), (1, [1, 3]), (0, [1])], [(4, [1, 3, 4, 5, 6]), (2, [1, 3, 4, 5]), (0, [1, 3, 4])], [], [3], [], [], [], []⟩
def f_ref09_Lattice : Abs.Fn := ⟨1, [.t 2],
  (.seq (.reg [1] f_ref09_Lattice_r0) (.seq (.reg [1, 3] f_ref09_Lattice_r1) (.seq (.seq (.reg [1, 3, 4] f_ref09_Lattice_r2) (.blk 0 (.loop [1, 3, 4] false f_ref09_Lattice_l14))) (.seq (.reg [2] f_ref09_Lattice_r15) .ret))))⟩

theorem e_ref09_Lattice_r0 : type_of% f_ref09_Lattice_r0.eq_1 := by_rfl f_ref09_Lattice_r0.eq_1
theorem e_ref09_Lattice_r1 : type_of% f_ref09_Lattice_r1.eq_1 := by_rfl f_ref09_Lattice_r1.eq_1
theorem e_ref09_Lattice_r2 : type_of% f_ref09_Lattice_r2.eq_1 := by_rfl f_ref09_Lattice_r2.eq_1
theorem e_ref09_Lattice_r3 : type_of% f_ref09_Lattice_r3.eq_1 := by_rfl f_ref09_Lattice_r3.eq_1
theorem e_ref09_Lattice_r4 : type_of% f_ref09_Lattice_r4.eq_1 := by_rfl f_ref09_Lattice_r4.eq_1
theorem e_ref09_Lattice_r5 : type_of% f_ref09_Lattice_r5.eq_1 := by_rfl f_ref09_Lattice_r5.eq_1
theorem e_ref09_Lattice_r6 : type_of% f_ref09_Lattice_r6.eq_1 := by_rfl f_ref09_Lattice_r6.eq_1
theorem e_ref09_Lattice_r7 : type_of% f_ref09_Lattice_r7.eq_1 := by_rfl f_ref09_Lattice_r7.eq_1
theorem e_ref09_Lattice_r8 : type_of% f_ref09_Lattice_r8.eq_1 := by_rfl f_ref09_Lattice_r8.eq_1
theorem e_ref09_Lattice_r9 : type_of% f_ref09_Lattice_r9.eq_1 := by_rfl f_ref09_Lattice_r9.eq_1
theorem e_ref09_Lattice_l10 : type_of% f_ref09_Lattice_l10.eq_1 := by_rfl f_ref09_Lattice_l10.eq_1
theorem e_ref09_Lattice_r11 : type_of% f_ref09_Lattice_r11.eq_1 := by_rfl f_ref09_Lattice_r11.eq_1
theorem e_ref09_Lattice_l12 : type_of% f_ref09_Lattice_l12.eq_1 := by_rfl f_ref09_Lattice_l12.eq_1
theorem e_ref09_Lattice_r13 : type_of% f_ref09_Lattice_r13.eq_1 := by_rfl f_ref09_Lattice_r13.eq_1
theorem e_ref09_Lattice_l14 : type_of% f_ref09_Lattice_l14.eq_1 := by_rfl f_ref09_Lattice_l14.eq_1
theorem e_ref09_Lattice_r15 : type_of% f_ref09_Lattice_r15.eq_1 := by_rfl f_ref09_Lattice_r15.eq_1
theorem e_ref09_Lattice : type_of% f_ref09_Lattice.eq_1 := by_rfl f_ref09_Lattice.eq_1
theorem ok_ref09_Lattice : fnC Try.prog a_ref09_Lattice Try.f37 = some f_ref09_Lattice := by kernel_rfl

/-! 38 fumarole/fumarolelaw09.word -/
def f_law09_word_r0 : List Abs.Op := [
  ⟨some 4, none, false, .mv (.c (.int .i64 0))⟩]

def f_law09_word_r1 : List Abs.Op := [
  ⟨some 5, none, false, .mv (.t 0)⟩,
  ⟨some 6, none, false, .lenS (.t 5)⟩,
  ⟨some 7, none, false, .bin .eql (.t 6) (.c (.int .i64 0))⟩]

def f_law09_word_r2 : List Abs.Op := [
  ⟨some 4, none, false, .mv (.c (.int .i64 0))⟩]

def f_law09_word_r3 : List Abs.Op := [
  ⟨some 8, none, false, .mv (.t 0)⟩,
  ⟨some 9, none, false, .mv (.t 1)⟩,
  ⟨some 10, none, false, .mv (.t 0)⟩,
  ⟨some 11, none, false, .lenS (.t 10)⟩,
  ⟨some 12, none, false, .bin .rem (.t 9) (.t 11)⟩,
  ⟨some 13, none, false, .idxS 1 (.t 8) (.t 12)⟩,
  ⟨some 14, none, false, .ld false 1 (.t 13)⟩,
  ⟨some 15, none, false, .cvt .i64 (.t 14)⟩,
  ⟨some 4, none, false, .mv (.t 15)⟩]

def a_law09_word : Ann := ⟨[(3, [4]), (2, [4]), (1, [0, 1, 7]), (0, [0, 1])], [], [], [], [], [], [], []⟩
def f_law09_word : Abs.Fn := ⟨2, [.t 4],
  (.seq (.reg [0, 1] f_law09_word_r0) (.seq (.seq (.reg [0, 1, 7] f_law09_word_r1) (.ite (.t 7) (.seq (.reg [4] f_law09_word_r2) .ret) .nop)) (.seq (.reg [4] f_law09_word_r3) .ret)))⟩

theorem e_law09_word_r0 : type_of% f_law09_word_r0.eq_1 := by_rfl f_law09_word_r0.eq_1
theorem e_law09_word_r1 : type_of% f_law09_word_r1.eq_1 := by_rfl f_law09_word_r1.eq_1
theorem e_law09_word_r2 : type_of% f_law09_word_r2.eq_1 := by_rfl f_law09_word_r2.eq_1
theorem e_law09_word_r3 : type_of% f_law09_word_r3.eq_1 := by_rfl f_law09_word_r3.eq_1
theorem e_law09_word : type_of% f_law09_word.eq_1 := by_rfl f_law09_word.eq_1
theorem ok_law09_word : fnC Try.prog a_law09_word Try.f38 = some f_law09_word := by kernel_rfl

/-! 39 fumarole/fumaroleref09.Far -/
def f_ref09_Far_r0 : List Abs.Op := [
  ⟨some 2, none, false, .boxi (.t 0)⟩,
  ⟨some 3, none, false, .boxi (.t 1)⟩,
  ⟨some 4, none, false, .mv (.c (.int .i64 0))⟩]

def f_ref09_Far_r1 : List Abs.Op := [
  ⟨some 12, none, true, .fadr 0 (.t 2)⟩,
  ⟨some 13, none, true, .ld false 1 (.t 12)⟩,
  ⟨some 14, none, true, .fadr 0 (.t 3)⟩,
  ⟨some 15, none, true, .ld false 1 (.t 14)⟩,
  ⟨some 16, none, true, .bin .sub (.t 13) (.t 15)⟩,
  ⟨some 17, none, true, .fadr 1 (.t 2)⟩,
  ⟨some 18, none, true, .ld false 1 (.t 17)⟩,
  ⟨some 19, none, true, .fadr 1 (.t 3)⟩,
  ⟨some 20, none, true, .ld false 1 (.t 19)⟩,
  ⟨some 21, none, true, .bin .sub (.t 18) (.t 20)⟩,
  ⟨some 22, none, true, .fadr 2 (.t 2)⟩,
  ⟨some 23, none, true, .ld false 1 (.t 22)⟩,
  ⟨some 24, none, true, .fadr 2 (.t 3)⟩,
  ⟨some 25, none, true, .ld false 1 (.t 24)⟩,
  ⟨some 26, none, true, .bin .sub (.t 23) (.t 25)⟩,
  ⟨some 5, none, true, .mv (.t 16)⟩,
  ⟨some 6, none, true, .mv (.t 21)⟩,
  ⟨some 7, none, false, .mv (.t 26)⟩]

def f_ref09_Far_r2 : List Abs.Op := [
  ⟨some 27, none, false, .mv (.t 5)⟩,
  ⟨some 28, none, false, .mv (.t 5)⟩,
  ⟨some 29, none, false, .bin .mul (.t 27) (.t 28)⟩,
  ⟨some 30, none, false, .mv (.t 6)⟩,
  ⟨some 31, none, false, .mv (.t 6)⟩,
  ⟨some 32, none, false, .bin .mul (.t 30) (.t 31)⟩,
  ⟨some 33, none, false, .bin .add (.t 29) (.t 32)⟩,
  ⟨some 34, none, false, .mv (.t 7)⟩,
  ⟨some 35, none, false, .mv (.t 7)⟩,
  ⟨some 36, none, false, .bin .mul (.t 34) (.t 35)⟩,
  ⟨some 37, none, false, .bin .add (.t 33) (.t 36)⟩,
  ⟨some 8, none, false, .mv (.t 37)⟩]

def f_ref09_Far_r3 : List Abs.Op := [
  ⟨some 9, none, false, .mv (.c (.int .i64 0))⟩,
  ⟨some 10, none, false, .mv (.c (.int .i64 70000))⟩]

def f_ref09_Far_r4 : List Abs.Op := [
  ⟨some 38, none, false, .mv (.t 9)⟩,
  ⟨some 39, none, false, .mv (.t 10)⟩,
  ⟨some 40, none, false, .bin .lss (.t 38) (.t 39)⟩]

def f_ref09_Far_r5 : List Abs.Op := [
  ⟨some 41, none, false, .mv (.t 9)⟩,
  ⟨some 42, none, false, .mv (.t 10)⟩,
  ⟨some 43, none, false, .bin .add (.t 41) (.t 42)⟩,
  ⟨some 44, none, false, .bin .add (.t 43) (.c (.int .i64 1))⟩,
  ⟨some 45, none, false, .bin .quo (.t 44) (.c (.int .i64 2))⟩,
  ⟨some 11, none, false, .mv (.t 45)⟩]

def f_ref09_Far_r6 : List Abs.Op := [
  ⟨some 46, none, false, .mv (.t 11)⟩,
  ⟨some 47, none, false, .mv (.t 11)⟩,
  ⟨some 48, none, false, .bin .mul (.t 46) (.t 47)⟩,
  ⟨some 49, none, false, .mv (.t 8)⟩,
  ⟨some 50, none, false, .bin .leq (.t 48) (.t 49)⟩]

def f_ref09_Far_r7 : List Abs.Op := [
  ⟨some 51, none, false, .mv (.t 11)⟩,
  ⟨some 9, none, false, .mv (.t 51)⟩]

def f_ref09_Far_r8 : List Abs.Op := [
  ⟨some 52, none, false, .mv (.t 11)⟩,
  ⟨some 53, none, false, .bin .sub (.t 52) (.c (.int .i64 1))⟩,
  ⟨some 10, none, false, .mv (.t 53)⟩]

def f_ref09_Far_l9 : Abs.Cmd :=
  (.seq (.seq (.reg [8, 9, 10, 40] f_ref09_Far_r4) (.ite (.t 40) .nop (.exit 0))) (.blk 1 (.seq (.reg [8, 9, 10, 11] f_ref09_Far_r5) (.seq (.reg [8, 9, 10, 11, 50] f_ref09_Far_r6) (.ite (.t 50) (.reg [8, 9, 10] f_ref09_Far_r7) (.reg [8, 9, 10] f_ref09_Far_r8))))))

def f_ref09_Far_r10 : List Abs.Op := [
  ⟨some 54, none, false, .mv (.t 9)⟩,
  ⟨some 4, none, false, .mv (.t 54)⟩]

def a_ref09_Far : Ann := ⟨[(9, [4]), (7, [8, 9, 10]), (8, [8, 9, 10]), (6, [8, 9, 10, 11, 50]), (5, [8, 9, 10, 11]), (4, [8, 9, 10, 40]), (3, [8, 9, 10]), (2, [8]), (1, [5, 6, 7]), (0, [2, 3])], [(0, [8, 9, 10])], [], [], [], [], [], []⟩
def f_ref09_Far : Abs.Fn := ⟨2, [.t 4],
  (.seq (.reg [2, 3] f_ref09_Far_r0) (.seq (.reg [5, 6, 7] f_ref09_Far_r1) (.seq (.reg [8] f_ref09_Far_r2) (.seq (.reg [8, 9, 10] f_ref09_Far_r3) (.seq (.blk 0 (.loop [8, 9, 10] false f_ref09_Far_l9)) (.seq (.reg [4] f_ref09_Far_r10) .ret))))))⟩

theorem e_ref09_Far_r0 : type_of% f_ref09_Far_r0.eq_1 := by_rfl f_ref09_Far_r0.eq_1
theorem e_ref09_Far_r1 : type_of% f_ref09_Far_r1.eq_1 := by_rfl f_ref09_Far_r1.eq_1
theorem e_ref09_Far_r2 : type_of% f_ref09_Far_r2.eq_1 := by_rfl f_ref09_Far_r2.eq_1
theorem e_ref09_Far_r3 : type_of% f_ref09_Far_r3.eq_1 := by_rfl f_ref09_Far_r3.eq_1
theorem e_ref09_Far_r4 : type_of% f_ref09_Far_r4.eq_1 := by_rfl f_ref09_Far_r4.eq_1
theorem e_ref09_Far_r5 : type_of% f_ref09_Far_r5.eq_1 := by_rfl f_ref09_Far_r5.eq_1
theorem e_ref09_Far_r6 : type_of% f_ref09_Far_r6.eq_1 := by_rfl f_ref09_Far_r6.eq_1
theorem e_ref09_Far_r7 : type_of% f_ref09_Far_r7.eq_1 := by_rfl f_ref09_Far_r7.eq_1
theorem e_ref09_Far_r8 : type_of% f_ref09_Far_r8.eq_1 := by_rfl f_ref09_Far_r8.eq_1
theorem e_ref09_Far_l9 : type_of% f_ref09_Far_l9.eq_1 := by_rfl f_ref09_Far_l9.eq_1
theorem e_ref09_Far_r10 : type_of% f_ref09_Far_r10.eq_1 := by_rfl f_ref09_Far_r10.eq_1
theorem e_ref09_Far : type_of% f_ref09_Far.eq_1 := by_rfl f_ref09_Far.eq_1
theorem ok_ref09_Far : fnC Try.prog a_ref09_Far Try.f39 = some f_ref09_Far := by kernel_rfl

/-! 40 fumarole/tremor.Travel -/
def f_tremor_Travel_r0 : List Abs.Op := [
  ⟨some 4, none, false, .boxi (.t 0)⟩,
  ⟨some 7, none, false, .boxi (.t 3)⟩,
  ⟨some 8, none, false, .alcv [] [(.int .i64 0), (.int .i64 0)]⟩,
  ⟨some 9, none, false, .mv (.c (.int .i64 0))⟩]

def f_tremor_Travel_r1 : List Abs.Op := [
  ⟨some 11, none, false, .ld true 12 (.t 4)⟩,
  ⟨some 12, none, false, .call false (.c (.fn i_tremor_Net_valid [] [])) [(.t 11)]⟩,
  ⟨some 13, none, false, .un .not (.t 12)⟩,
  ⟨some 10, none, false, .mv (.t 13)⟩]

def f_tremor_Travel_r2 : List Abs.Op := [
  ⟨some 14, none, false, .bld [(.int .i64 0), (.int .i64 0)] []⟩,
  ⟨none, none, false, .stv 8 [] 2 8 (.t 14)⟩,
  ⟨some 9, none, false, .mv (.c (.int .i64 1))⟩]

def f_tremor_Travel_r3 : List Abs.Op := [
  ⟨some 16, none, false, .ld true 12 (.t 4)⟩,
  ⟨some 17, none, false, .mv (.t 1)⟩,
  ⟨some 18, none, false, .call false (.c (.fn i_tremor_Net_has [] [])) [(.t 16), (.t 17)]⟩,
  ⟨some 19, none, false, .un .not (.t 18)⟩,
  ⟨some 20, none, false, .mv (.t 19)⟩,
  ⟨some 21, some (20, false), false, .mv (.t 2)⟩,
  ⟨some 22, some (20, false), false, .cvt .i64 (.t 21)⟩,
  ⟨some 23, some (20, false), false, .bin .geq (.t 22) (.c (.int .i64 2))⟩,
  ⟨some 24, none, false, .pick (.t 20) (.c (.bool true)) (.t 23)⟩,
  ⟨some 15, none, false, .mv (.t 24)⟩]

def f_tremor_Travel_r4 : List Abs.Op := [
  ⟨some 25, none, false, .bld [(.int .i64 0), (.int .i64 0)] []⟩,
  ⟨none, none, false, .stv 8 [] 2 8 (.t 25)⟩,
  ⟨some 9, none, false, .mv (.c (.int .i64 2))⟩]

def f_tremor_Travel_r5 : List Abs.Op := [
  ⟨some 27, none, false, .ld true 3 (.t 7)⟩,
  ⟨some 28, none, false, .call false (.c (.fn i_tremor_Point_valid [] [])) [(.t 27)]⟩,
  ⟨some 29, none, false, .un .not (.t 28)⟩,
  ⟨some 26, none, false, .mv (.t 29)⟩]

def f_tremor_Travel_r6 : List Abs.Op := [
  ⟨some 30, none, false, .bld [(.int .i64 0), (.int .i64 0)] []⟩,
  ⟨none, none, false, .stv 8 [] 2 8 (.t 30)⟩,
  ⟨some 9, none, false, .mv (.c (.int .i64 1))⟩]

def f_tremor_Travel_r7 : List Abs.Op := [
  ⟨some 31, none, false, .ld true 12 (.t 4)⟩,
  ⟨some 32, none, false, .mv (.t 1)⟩,
  ⟨some 33, none, false, .mv (.t 2)⟩,
  ⟨some 34, none, false, .ld true 3 (.t 7)⟩,
  ⟨some 35, none, false, .call false (.c (.fn i_tremor_Net_travel [] [])) [(.t 31), (.t 32), (.t 33), (.t 34)]⟩,
  ⟨none, none, false, .stv 8 [] 2 8 (.t 35)⟩,
  ⟨some 9, none, false, .mv (.c (.int .i64 0))⟩]

def a_tremor_Travel : Ann := ⟨[(7, [8, 9]), (2, [8, 9]), (4, [8, 9]), (6, [8, 9]), (5, [1, 2, 4, 7, 8, 26]), (3, [1, 2, 4, 7, 8, 15]), (1, [1, 2, 4, 7, 8, 10]), (0, [1, 2, 4, 7, 8])], [], [], [8], [8], [], [], []⟩
def f_tremor_Travel : Abs.Fn := ⟨4, [.v 8 true 2, .t 9],
  (.seq (.reg [1, 2, 4, 7, 8] f_tremor_Travel_r0) (.seq (.blk 0 (.seq (.reg [1, 2, 4, 7, 8, 10] f_tremor_Travel_r1) (.ite (.t 10) (.seq (.reg [8, 9] f_tremor_Travel_r2) .ret) (.seq (.reg [1, 2, 4, 7, 8, 15] f_tremor_Travel_r3) (.ite (.t 15) (.seq (.reg [8, 9] f_tremor_Travel_r4) .ret) (.seq (.reg [1, 2, 4, 7, 8, 26] f_tremor_Travel_r5) (.ite (.t 26) (.seq (.reg [8, 9] f_tremor_Travel_r6) .ret) .nop))))))) (.seq (.reg [8, 9] f_tremor_Travel_r7) .ret)))⟩

theorem e_tremor_Travel_r0 : type_of% f_tremor_Travel_r0.eq_1 := by_rfl f_tremor_Travel_r0.eq_1
theorem e_tremor_Travel_r1 : type_of% f_tremor_Travel_r1.eq_1 := by_rfl f_tremor_Travel_r1.eq_1
theorem e_tremor_Travel_r2 : type_of% f_tremor_Travel_r2.eq_1 := by_rfl f_tremor_Travel_r2.eq_1
theorem e_tremor_Travel_r3 : type_of% f_tremor_Travel_r3.eq_1 := by_rfl f_tremor_Travel_r3.eq_1
theorem e_tremor_Travel_r4 : type_of% f_tremor_Travel_r4.eq_1 := by_rfl f_tremor_Travel_r4.eq_1
theorem e_tremor_Travel_r5 : type_of% f_tremor_Travel_r5.eq_1 := by_rfl f_tremor_Travel_r5.eq_1
theorem e_tremor_Travel_r6 : type_of% f_tremor_Travel_r6.eq_1 := by_rfl f_tremor_Travel_r6.eq_1
theorem e_tremor_Travel_r7 : type_of% f_tremor_Travel_r7.eq_1 := by_rfl f_tremor_Travel_r7.eq_1
theorem e_tremor_Travel : type_of% f_tremor_Travel.eq_1 := by_rfl f_tremor_Travel.eq_1
theorem ok_tremor_Travel : fnC Try.prog a_tremor_Travel Try.f40 = some f_tremor_Travel := by kernel_rfl

/-! 41 fumarole/tremor.CheckNet -/
def f_tremor_CheckNet_r0 : List Abs.Op := [
  ⟨some 1, none, false, .boxi (.t 0)⟩,
  ⟨some 2, none, false, .mv (.c (.int .i64 0))⟩]

def f_tremor_CheckNet_r1 : List Abs.Op := [
  ⟨some 3, none, false, .ld true 12 (.t 1)⟩,
  ⟨some 4, none, false, .call false (.c (.fn i_tremor_Net_valid [] [])) [(.t 3)]⟩,
  ⟨some 5, none, false, .un .not (.t 4)⟩]

def f_tremor_CheckNet_r2 : List Abs.Op := [
  ⟨some 2, none, false, .mv (.c (.int .i64 1))⟩]

def f_tremor_CheckNet_r3 : List Abs.Op := [
  ⟨some 2, none, false, .mv (.c (.int .i64 0))⟩]

def a_tremor_CheckNet : Ann := ⟨[(3, [2]), (2, [2]), (1, [5]), (0, [1])], [], [], [], [], [], [], []⟩
def f_tremor_CheckNet : Abs.Fn := ⟨1, [.t 2],
  (.seq (.reg [1] f_tremor_CheckNet_r0) (.seq (.seq (.reg [5] f_tremor_CheckNet_r1) (.ite (.t 5) (.seq (.reg [2] f_tremor_CheckNet_r2) .ret) .nop)) (.seq (.reg [2] f_tremor_CheckNet_r3) .ret)))⟩

theorem e_tremor_CheckNet_r0 : type_of% f_tremor_CheckNet_r0.eq_1 := by_rfl f_tremor_CheckNet_r0.eq_1
theorem e_tremor_CheckNet_r1 : type_of% f_tremor_CheckNet_r1.eq_1 := by_rfl f_tremor_CheckNet_r1.eq_1
theorem e_tremor_CheckNet_r2 : type_of% f_tremor_CheckNet_r2.eq_1 := by_rfl f_tremor_CheckNet_r2.eq_1
theorem e_tremor_CheckNet_r3 : type_of% f_tremor_CheckNet_r3.eq_1 := by_rfl f_tremor_CheckNet_r3.eq_1
theorem e_tremor_CheckNet : type_of% f_tremor_CheckNet.eq_1 := by_rfl f_tremor_CheckNet.eq_1
theorem ok_tremor_CheckNet : fnC Try.prog a_tremor_CheckNet Try.f41 = some f_tremor_CheckNet := by kernel_rfl

/-! 42 fumarole/fumarolelaw09.Range -/
def f_law09_Range_r0 : List Abs.Op := [
  ⟨some 1, none, false, .boxi (.t 0)⟩,
  ⟨some 2, none, false, .alcv [] [(.int .i64 0), (.int .i64 0)]⟩]

def f_law09_Range_r1 : List Abs.Op := [
  ⟨some 3, none, false, .fadr 0 (.t 1)⟩,
  ⟨some 4, none, false, .ld false 1 (.t 3)⟩,
  ⟨some 5, none, false, .fadr 1 (.t 1)⟩,
  ⟨some 6, none, false, .ld false 1 (.t 5)⟩,
  ⟨some 7, none, false, .bld [(.int .i64 0), (.int .i64 0)] [(0, 1, (.t 4)), (1, 1, (.t 6))]⟩,
  ⟨none, none, false, .stv 2 [] 2 2 (.t 7)⟩]

def a_law09_Range : Ann := ⟨[(1, [2]), (0, [1, 2])], [], [], [2], [2], [], [], []⟩
def f_law09_Range : Abs.Fn := ⟨1, [.v 2 true 2],
  (.seq (.reg [1, 2] f_law09_Range_r0) (.seq (.reg [2] f_law09_Range_r1) .ret))⟩

theorem e_law09_Range_r0 : type_of% f_law09_Range_r0.eq_1 := by_rfl f_law09_Range_r0.eq_1
theorem e_law09_Range_r1 : type_of% f_law09_Range_r1.eq_1 := by_rfl f_law09_Range_r1.eq_1
theorem e_law09_Range : type_of% f_law09_Range.eq_1 := by_rfl f_law09_Range.eq_1
theorem ok_law09_Range : fnC Try.prog a_law09_Range Try.f42 = some f_law09_Range := by kernel_rfl

/-! 43 fumarole/fumaroleref09.Travel -/
def f_ref09_Travel_r0 : List Abs.Op := [
  ⟨some 4, none, false, .boxi (.t 0)⟩,
  ⟨some 7, none, false, .boxi (.t 3)⟩,
  ⟨some 8, none, false, .alcv [] [(.int .i64 0), (.int .i64 0)]⟩]

def f_ref09_Travel_r1 : List Abs.Op := [
  ⟨some 11, none, true, .fadr 0 (.t 4)⟩,
  ⟨some 12, none, true, .ld false 1 (.t 11)⟩,
  ⟨some 13, none, true, .mv (.t 1)⟩,
  ⟨some 14, none, true, .idxS 4 (.t 12) (.t 13)⟩,
  ⟨some 15, none, true, .fadr 0 (.t 14)⟩,
  ⟨some 16, none, true, .ld true 3 (.t 15)⟩,
  ⟨some 17, none, true, .ld true 3 (.t 7)⟩,
  ⟨some 18, none, true, .call false (.c (.fn i_ref09_Far [] [])) [(.t 16), (.t 17)]⟩,
  ⟨some 19, none, true, .mv (.t 2)⟩,
  ⟨some 20, none, true, .fadr 1 (.t 4)⟩,
  ⟨some 21, none, true, .idxA 2 2 (.t 20) (.t 19)⟩,
  ⟨some 22, none, true, .ld true 2 (.t 21)⟩,
  ⟨some 10, none, true, .alcv [] [(.int .i64 0), (.int .i64 0)]⟩,
  ⟨some 9, none, true, .mv (.t 18)⟩,
  ⟨none, none, false, .stv 10 [] 2 10 (.t 22)⟩]

def f_ref09_Travel_r2 : List Abs.Op := [
  ⟨some 23, none, false, .fadr 0 (.t 10)⟩,
  ⟨some 24, none, false, .ldv 10 false 1 23⟩,
  ⟨some 25, none, false, .mv (.t 9)⟩,
  ⟨some 26, none, false, .bin .mul (.t 24) (.t 25)⟩,
  ⟨some 27, none, false, .bin .quo (.t 26) (.c (.int .i64 1000))⟩,
  ⟨some 28, none, false, .fadr 1 (.t 10)⟩,
  ⟨some 29, none, false, .ldv 10 false 1 28⟩,
  ⟨some 30, none, false, .mv (.t 9)⟩,
  ⟨some 31, none, false, .bin .add (.t 30) (.c (.int .i64 1))⟩,
  ⟨some 32, none, false, .bin .mul (.t 29) (.t 31)⟩,
  ⟨some 33, none, false, .bin .add (.t 32) (.c (.int .i64 999))⟩,
  ⟨some 34, none, false, .bin .quo (.t 33) (.c (.int .i64 1000))⟩,
  ⟨some 35, none, false, .bld [(.int .i64 0), (.int .i64 0)] [(0, 1, (.t 27)), (1, 1, (.t 34))]⟩,
  ⟨none, none, false, .stv 8 [] 2 8 (.t 35)⟩]

def a_ref09_Travel : Ann := ⟨[(2, [8]), (1, [8, 9, 10]), (0, [1, 2, 4, 7, 8])], [], [], [8, 10], [8, 10], [], [], []⟩
def f_ref09_Travel : Abs.Fn := ⟨4, [.v 8 true 2],
  (.seq (.reg [1, 2, 4, 7, 8] f_ref09_Travel_r0) (.seq (.reg [8, 9, 10] f_ref09_Travel_r1) (.seq (.reg [8] f_ref09_Travel_r2) .ret)))⟩

theorem e_ref09_Travel_r0 : type_of% f_ref09_Travel_r0.eq_1 := by_rfl f_ref09_Travel_r0.eq_1
theorem e_ref09_Travel_r1 : type_of% f_ref09_Travel_r1.eq_1 := by_rfl f_ref09_Travel_r1.eq_1
theorem e_ref09_Travel_r2 : type_of% f_ref09_Travel_r2.eq_1 := by_rfl f_ref09_Travel_r2.eq_1
theorem e_ref09_Travel : type_of% f_ref09_Travel.eq_1 := by_rfl f_ref09_Travel.eq_1
theorem ok_ref09_Travel : fnC Try.prog a_ref09_Travel Try.f43 = some f_ref09_Travel := by kernel_rfl

/-! 44 fumarole/tremor.Capital -/
def f_tremor_Capital_r0 : List Abs.Op := [
  ⟨some 2, none, false, .boxi (.t 0)⟩,
  ⟨some 4, none, false, .mv (.c .nils)⟩,
  ⟨some 5, none, false, .mv (.c (.int .i64 0))⟩]

def f_tremor_Capital_r1 : List Abs.Op := [
  ⟨some 11, none, false, .ld true 5 (.t 2)⟩,
  ⟨some 12, none, false, .call false (.c (.fn i_tremor_Bet_valid [] [])) [(.t 11)]⟩,
  ⟨some 13, none, false, .un .not (.t 12)⟩,
  ⟨some 10, none, false, .mv (.t 13)⟩]

def f_tremor_Capital_r2 : List Abs.Op := [
  ⟨some 4, none, false, .mv (.c .nils)⟩,
  ⟨some 5, none, false, .mv (.c (.int .i64 1))⟩]

def f_tremor_Capital_r3 : List Abs.Op := [
  ⟨some 15, none, false, .mv (.t 1)⟩,
  ⟨some 16, none, false, .lenS (.t 15)⟩,
  ⟨some 17, none, false, .bin .gtr (.t 16) (.c (.int .i64 2000))⟩,
  ⟨some 14, none, false, .mv (.t 17)⟩]

def f_tremor_Capital_r4 : List Abs.Op := [
  ⟨some 4, none, false, .mv (.c .nils)⟩,
  ⟨some 5, none, false, .mv (.c (.int .i64 3))⟩]

def f_tremor_Capital_r5 : List Abs.Op := [
  ⟨some 6, none, false, .nilb 1⟩]

def f_tremor_Capital_r6 : List Abs.Op := [
  ⟨some 18, none, false, .ld true 5 (.t 2)⟩,
  ⟨some 19, none, false, .call true (.c (.fn i_tremor_Bet_going [] [])) [(.t 18)]⟩,
  ⟨some 7, none, false, .mv (.t 19)⟩]

def f_tremor_Capital_r7 : List Abs.Op := [
  ⟨some 20, none, false, .mv (.t 1)⟩,
  ⟨some 21, none, false, .lenS (.t 20)⟩,
  ⟨some 22, none, false, .mv (.c (.int .i64 0))⟩]

def f_tremor_Capital_r8 : List Abs.Op := [
  ⟨some 23, none, false, .bin .lss (.t 22) (.t 21)⟩]

def f_tremor_Capital_r9 : List Abs.Op := [
  ⟨some 24, none, false, .idxS 1 (.t 20) (.t 22)⟩,
  ⟨some 25, none, false, .ld false 1 (.t 24)⟩,
  ⟨some 9, none, false, .mv (.t 25)⟩]

def f_tremor_Capital_r10 : List Abs.Op := [
  ⟨some 26, none, false, .mv (.t 6)⟩,
  ⟨some 27, none, false, .mv (.t 7)⟩,
  ⟨some 28, none, false, .mv (.t 9)⟩,
  ⟨some 29, none, false, .call false (.t 27) [(.t 28)]⟩,
  ⟨some 30, none, false, .bsi 1 1 [(.int .i64 0)] [(0, 1, (.t 29))]⟩,
  ⟨some 31, none, false, .app 1 8 (.t 26) (.t 30)⟩,
  ⟨some 6, none, false, .mv (.t 31)⟩]

def f_tremor_Capital_r11 : List Abs.Op := [
  ⟨some 32, none, false, .bin .add (.t 22) (.c (.int .i64 1))⟩,
  ⟨some 22, none, false, .mv (.t 32)⟩]

def f_tremor_Capital_l12 : Abs.Cmd :=
  (.seq (.reg [6, 7, 20, 21, 22, 23] f_tremor_Capital_r8) (.seq (.ite (.t 23) .nop (.exit 1)) (.seq (.blk 2 (.seq (.reg [6, 7, 9, 20, 21, 22] f_tremor_Capital_r9) (.reg [6, 7, 20, 21, 22] f_tremor_Capital_r10))) (.reg [6, 7, 20, 21, 22] f_tremor_Capital_r11))))

def f_tremor_Capital_r13 : List Abs.Op := [
  ⟨some 33, none, false, .mv (.t 6)⟩,
  ⟨some 4, none, false, .mv (.t 33)⟩,
  ⟨some 5, none, false, .mv (.c (.int .i64 0))⟩]

def a_tremor_Capital : Ann := ⟨[(12, [4, 5]), (11, [6, 7, 20, 21, 22]), (10, [6, 7, 20, 21, 22]), (9, [6, 7, 9, 20, 21, 22]), (8, [6, 7, 20, 21, 22, 23]), (7, [6, 7, 20, 21, 22]), (6, [1, 6, 7]), (5, [1, 2, 6]), (2, [4, 5]), (4, [4, 5]), (3, [1, 2, 14]), (1, [1, 2, 10]), (0, [1, 2])], [(1, [6, 7, 20, 21, 22])], [], [6], [], [], [6001], []⟩
def f_tremor_Capital : Abs.Fn := ⟨2, [.t 4, .t 5],
  (.seq (.reg [1, 2] f_tremor_Capital_r0) (.seq (.blk 0 (.seq (.reg [1, 2, 10] f_tremor_Capital_r1) (.ite (.t 10) (.seq (.reg [4, 5] f_tremor_Capital_r2) .ret) (.seq (.reg [1, 2, 14] f_tremor_Capital_r3) (.ite (.t 14) (.seq (.reg [4, 5] f_tremor_Capital_r4) .ret) .nop))))) (.seq (.reg [1, 2, 6] f_tremor_Capital_r5) (.seq (.reg [1, 6, 7] f_tremor_Capital_r6) (.seq (.seq (.reg [6, 7, 20, 21, 22] f_tremor_Capital_r7) (.blk 1 (.loop [6, 7, 20, 21, 22] false f_tremor_Capital_l12))) (.seq (.reg [4, 5] f_tremor_Capital_r13) .ret))))))⟩

theorem e_tremor_Capital_r0 : type_of% f_tremor_Capital_r0.eq_1 := by_rfl f_tremor_Capital_r0.eq_1
theorem e_tremor_Capital_r1 : type_of% f_tremor_Capital_r1.eq_1 := by_rfl f_tremor_Capital_r1.eq_1
theorem e_tremor_Capital_r2 : type_of% f_tremor_Capital_r2.eq_1 := by_rfl f_tremor_Capital_r2.eq_1
theorem e_tremor_Capital_r3 : type_of% f_tremor_Capital_r3.eq_1 := by_rfl f_tremor_Capital_r3.eq_1
theorem e_tremor_Capital_r4 : type_of% f_tremor_Capital_r4.eq_1 := by_rfl f_tremor_Capital_r4.eq_1
theorem e_tremor_Capital_r5 : type_of% f_tremor_Capital_r5.eq_1 := by_rfl f_tremor_Capital_r5.eq_1
theorem e_tremor_Capital_r6 : type_of% f_tremor_Capital_r6.eq_1 := by_rfl f_tremor_Capital_r6.eq_1
theorem e_tremor_Capital_r7 : type_of% f_tremor_Capital_r7.eq_1 := by_rfl f_tremor_Capital_r7.eq_1
theorem e_tremor_Capital_r8 : type_of% f_tremor_Capital_r8.eq_1 := by_rfl f_tremor_Capital_r8.eq_1
theorem e_tremor_Capital_r9 : type_of% f_tremor_Capital_r9.eq_1 := by_rfl f_tremor_Capital_r9.eq_1
theorem e_tremor_Capital_r10 : type_of% f_tremor_Capital_r10.eq_1 := by_rfl f_tremor_Capital_r10.eq_1
theorem e_tremor_Capital_r11 : type_of% f_tremor_Capital_r11.eq_1 := by_rfl f_tremor_Capital_r11.eq_1
theorem e_tremor_Capital_l12 : type_of% f_tremor_Capital_l12.eq_1 := by_rfl f_tremor_Capital_l12.eq_1
theorem e_tremor_Capital_r13 : type_of% f_tremor_Capital_r13.eq_1 := by_rfl f_tremor_Capital_r13.eq_1
theorem e_tremor_Capital : type_of% f_tremor_Capital.eq_1 := by_rfl f_tremor_Capital.eq_1
theorem ok_tremor_Capital : fnC Try.prog a_tremor_Capital Try.f44 = some f_tremor_Capital := by kernel_rfl

/-! 45 fumarole/fumarolelaw09.Bet -/
def f_law09_Bet_r0 : List Abs.Op := [
  ⟨some 1, none, false, .boxi (.t 0)⟩,
  ⟨some 2, none, false, .alcv [] [(.int .i64 0), (.int .i64 0), (.int .i64 0), (.int .i64 0), (.int .i64 0)]⟩]

def f_law09_Bet_r1 : List Abs.Op := [
  ⟨some 3, none, false, .fadr 0 (.t 1)⟩,
  ⟨some 4, none, false, .ld false 1 (.t 3)⟩,
  ⟨some 5, none, false, .fadr 1 (.t 1)⟩,
  ⟨some 6, none, false, .ld false 1 (.t 5)⟩,
  ⟨some 7, none, false, .fadr 2 (.t 1)⟩,
  ⟨some 8, none, false, .ld false 1 (.t 7)⟩,
  ⟨some 9, none, false, .fadr 3 (.t 1)⟩,
  ⟨some 10, none, false, .ld false 1 (.t 9)⟩,
  ⟨some 11, none, false, .fadr 4 (.t 1)⟩,
  ⟨some 12, none, false, .ld false 1 (.t 11)⟩,
  ⟨some 13, none, false, .bld [(.int .i64 0), (.int .i64 0), (.int .i64 0), (.int .i64 0), (.int .i64 0)] [(0, 1, (.t 4)), (1, 1, (.t 6)), (2, 1, (.t 8)), (3, 1, (.t 10)), (4, 1, (.t 12))]⟩,
  ⟨none, none, false, .stv 2 [] 5 2 (.t 13)⟩]

def a_law09_Bet : Ann := ⟨[(1, [2]), (0, [1, 2])], [], [], [2], [2], [], [], []⟩
def f_law09_Bet : Abs.Fn := ⟨1, [.v 2 true 5],
  (.seq (.reg [1, 2] f_law09_Bet_r0) (.seq (.reg [2] f_law09_Bet_r1) .ret))⟩

theorem e_law09_Bet_r0 : type_of% f_law09_Bet_r0.eq_1 := by_rfl f_law09_Bet_r0.eq_1
theorem e_law09_Bet_r1 : type_of% f_law09_Bet_r1.eq_1 := by_rfl f_law09_Bet_r1.eq_1
theorem e_law09_Bet : type_of% f_law09_Bet.eq_1 := by_rfl f_law09_Bet.eq_1
theorem ok_law09_Bet : fnC Try.prog a_law09_Bet Try.f45 = some f_law09_Bet := by kernel_rfl

/-! 46 fumarole/tremor.Won -/
def f_tremor_Won_r0 : List Abs.Op := [
  ⟨some 2, none, false, .boxi (.t 0)⟩,
  ⟨some 4, none, false, .mv (.c (.int .i64 0))⟩,
  ⟨some 5, none, false, .mv (.c (.int .i64 0))⟩]

def f_tremor_Won_r1 : List Abs.Op := [
  ⟨some 10, none, false, .ld true 5 (.t 2)⟩,
  ⟨some 11, none, false, .mv (.t 1)⟩,
  ⟨some 12, none, false, .call false (.c (.fn i_tremor_Capital [] [])) [(.t 10), (.t 11)]⟩,
  ⟨some 9, none, false, .mv (.t 12)⟩,
  ⟨some 13, none, false, .ext (.t 9) 0⟩,
  ⟨some 14, none, false, .ext (.t 9) 1⟩,
  ⟨some 6, none, false, .mv (.t 13)⟩,
  ⟨some 7, none, false, .mv (.t 14)⟩]

def f_tremor_Won_r2 : List Abs.Op := [
  ⟨some 15, none, false, .mv (.t 7)⟩,
  ⟨some 16, none, false, .bin .neq (.t 15) (.c (.int .i64 0))⟩]

def f_tremor_Won_r3 : List Abs.Op := [
  ⟨some 17, none, false, .mv (.t 7)⟩,
  ⟨some 4, none, false, .mv (.c (.int .i64 0))⟩,
  ⟨some 5, none, false, .mv (.t 17)⟩]

def f_tremor_Won_r4 : List Abs.Op := [
  ⟨some 18, none, false, .mv (.t 6)⟩,
  ⟨some 19, none, false, .mkf i_tremor_Won_1 [] [(.t 2)]⟩,
  ⟨some 20, none, false, .call false (.c (.fn i_slices_IndexFunc_int [] [])) [(.t 18), (.t 19)]⟩,
  ⟨some 8, none, false, .mv (.t 20)⟩]

def f_tremor_Won_r5 : List Abs.Op := [
  ⟨some 21, none, false, .mv (.t 8)⟩,
  ⟨some 22, none, false, .bin .geq (.t 21) (.c (.int .i64 0))⟩]

def f_tremor_Won_r6 : List Abs.Op := [
  ⟨some 23, none, false, .mv (.t 8)⟩,
  ⟨some 4, none, false, .mv (.t 23)⟩,
  ⟨some 5, none, false, .mv (.c (.int .i64 0))⟩]

def f_tremor_Won_r7 : List Abs.Op := [
  ⟨some 4, none, false, .mv (.c (.int .i64 0))⟩,
  ⟨some 5, none, false, .mv (.c (.int .i64 7))⟩]

def a_tremor_Won : Ann := ⟨[(7, [4, 5]), (6, [4, 5]), (5, [8, 22]), (4, [8]), (3, [4, 5]), (2, [2, 6, 7, 16]), (1, [2, 6, 7]), (0, [1, 2])], [], [], [], [], [], [], []⟩
def f_tremor_Won : Abs.Fn := ⟨2, [.t 4, .t 5],
  (.seq (.reg [1, 2] f_tremor_Won_r0) (.seq (.reg [2, 6, 7] f_tremor_Won_r1) (.seq (.seq (.reg [2, 6, 7, 16] f_tremor_Won_r2) (.ite (.t 16) (.seq (.reg [4, 5] f_tremor_Won_r3) .ret) .nop)) (.seq (.seq (.reg [8] f_tremor_Won_r4) (.seq (.reg [8, 22] f_tremor_Won_r5) (.ite (.t 22) (.seq (.reg [4, 5] f_tremor_Won_r6) .ret) .nop))) (.seq (.reg [4, 5] f_tremor_Won_r7) .ret)))))⟩

theorem e_tremor_Won_r0 : type_of% f_tremor_Won_r0.eq_1 := by_rfl f_tremor_Won_r0.eq_1
theorem e_tremor_Won_r1 : type_of% f_tremor_Won_r1.eq_1 := by_rfl f_tremor_Won_r1.eq_1
theorem e_tremor_Won_r2 : type_of% f_tremor_Won_r2.eq_1 := by_rfl f_tremor_Won_r2.eq_1
theorem e_tremor_Won_r3 : type_of% f_tremor_Won_r3.eq_1 := by_rfl f_tremor_Won_r3.eq_1
theorem e_tremor_Won_r4 : type_of% f_tremor_Won_r4.eq_1 := by_rfl f_tremor_Won_r4.eq_1
theorem e_tremor_Won_r5 : type_of% f_tremor_Won_r5.eq_1 := by_rfl f_tremor_Won_r5.eq_1
theorem e_tremor_Won_r6 : type_of% f_tremor_Won_r6.eq_1 := by_rfl f_tremor_Won_r6.eq_1
theorem e_tremor_Won_r7 : type_of% f_tremor_Won_r7.eq_1 := by_rfl f_tremor_Won_r7.eq_1
theorem e_tremor_Won : type_of% f_tremor_Won.eq_1 := by_rfl f_tremor_Won.eq_1
theorem ok_tremor_Won : fnC Try.prog a_tremor_Won Try.f46 = some f_tremor_Won := by kernel_rfl

/-! 47 fumarole/fumaroleref09.RightBet -/
def f_ref09_RightBet_r0 : List Abs.Op := [
  ⟨some 1, none, false, .boxi (.t 0)⟩,
  ⟨some 2, none, false, .mv (.c (.bool false))⟩]

def f_ref09_RightBet_r1 : List Abs.Op := [
  ⟨some 3, none, false, .fadr 1 (.t 1)⟩,
  ⟨some 4, none, false, .ld false 1 (.t 3)⟩,
  ⟨some 5, none, false, .call false (.c (.fn i_ref09_In [] [])) [(.t 4), (.c (.int .i64 2)), (.c (.int .i64 1000))]⟩,
  ⟨some 6, none, false, .mv (.t 5)⟩,
  ⟨some 7, some (6, true), false, .fadr 0 (.t 1)⟩,
  ⟨some 8, some (6, true), false, .ld false 1 (.t 7)⟩,
  ⟨some 9, some (6, true), false, .fadr 1 (.t 1)⟩,
  ⟨some 10, some (6, true), false, .ld false 1 (.t 9)⟩,
  ⟨some 11, some (6, true), false, .bin .sub (.t 10) (.c (.int .i64 1))⟩,
  ⟨some 12, some (6, true), false, .call false (.c (.fn i_ref09_In [] [])) [(.t 8), (.c (.int .i64 1)), (.t 11)]⟩,
  ⟨some 13, none, false, .pick (.t 6) (.t 12) (.c (.bool false))⟩,
  ⟨some 14, none, false, .mv (.t 13)⟩,
  ⟨some 15, some (14, true), false, .fadr 3 (.t 1)⟩,
  ⟨some 16, some (14, true), false, .ld false 1 (.t 15)⟩,
  ⟨some 17, some (14, true), false, .call false (.c (.fn i_ref09_In [] [])) [(.t 16), (.c (.int .i64 1)), (.c (.int .i64 1000))]⟩,
  ⟨some 18, none, false, .pick (.t 14) (.t 17) (.c (.bool false))⟩,
  ⟨some 19, none, false, .mv (.t 18)⟩,
  ⟨some 20, some (19, true), false, .fadr 2 (.t 1)⟩,
  ⟨some 21, some (19, true), false, .ld false 1 (.t 20)⟩,
  ⟨some 22, some (19, true), false, .fadr 3 (.t 1)⟩,
  ⟨some 23, some (19, true), false, .ld false 1 (.t 22)⟩,
  ⟨some 24, some (19, true), false, .call false (.c (.fn i_ref09_In [] [])) [(.t 21), (.c (.int .i64 0)), (.t 23)]⟩,
  ⟨some 25, none, false, .pick (.t 19) (.t 24) (.c (.bool false))⟩,
  ⟨some 26, none, false, .mv (.t 25)⟩,
  ⟨some 27, some (26, true), false, .fadr 4 (.t 1)⟩,
  ⟨some 28, some (26, true), false, .ld false 1 (.t 27)⟩,
  ⟨some 29, some (26, true), false, .call false (.c (.fn i_ref09_In [] [])) [(.t 28), (.c (.int .i64 2)), (.c (.int .i64 1000))]⟩,
  ⟨some 30, none, false, .pick (.t 26) (.t 29) (.c (.bool false))⟩,
  ⟨some 2, none, false, .mv (.t 30)⟩]

def a_ref09_RightBet : Ann := ⟨[(1, [2]), (0, [1])], [], [], [], [], [], [], []⟩
def f_ref09_RightBet : Abs.Fn := ⟨1, [.t 2],
  (.seq (.reg [1] f_ref09_RightBet_r0) (.seq (.reg [2] f_ref09_RightBet_r1) .ret))⟩

theorem e_ref09_RightBet_r0 : type_of% f_ref09_RightBet_r0.eq_1 := by_rfl f_ref09_RightBet_r0.eq_1
theorem e_ref09_RightBet_r1 : type_of% f_ref09_RightBet_r1.eq_1 := by_rfl f_ref09_RightBet_r1.eq_1
theorem e_ref09_RightBet : type_of% f_ref09_RightBet.eq_1 := by_rfl f_ref09_RightBet.eq_1
theorem ok_ref09_RightBet : fnC Try.prog a_ref09_RightBet Try.f47 = some f_ref09_RightBet := by kernel_rfl

/-! 48 fumarole/fumaroleref09.Capital -/
def f_ref09_Capital_r0 : List Abs.Op := [
  ⟨some 2, none, false, .boxi (.t 0)⟩,
  ⟨some 4, none, false, .mv (.c .nils)⟩]

def f_ref09_Capital_r1 : List Abs.Op := [
  ⟨some 5, none, false, .nilb 1⟩]

def f_ref09_Capital_r2 : List Abs.Op := [
  ⟨some 6, none, false, .mv (.c (.int .i64 1000000))⟩]

def f_ref09_Capital_r3 : List Abs.Op := [
  ⟨some 7, none, false, .mv (.c (.int .i64 0))⟩]

def f_ref09_Capital_r4 : List Abs.Op := [
  ⟨some 8, none, false, .mv (.t 7)⟩,
  ⟨some 9, none, false, .mv (.t 1)⟩,
  ⟨some 10, none, false, .lenS (.t 9)⟩,
  ⟨some 11, none, false, .bin .lss (.t 8) (.t 10)⟩]

def f_ref09_Capital_r5 : List Abs.Op := [
  ⟨some 14, none, true, .ld true 5 (.t 2)⟩,
  ⟨some 15, none, true, .mv (.t 6)⟩,
  ⟨some 16, none, true, .mv (.t 1)⟩,
  ⟨some 17, none, true, .mv (.t 7)⟩,
  ⟨some 18, none, true, .idxS 1 (.t 16) (.t 17)⟩,
  ⟨some 19, none, true, .ld false 1 (.t 18)⟩,
  ⟨some 20, none, false, .call false (.c (.fn i_ref09_Next [] [])) [(.t 14), (.t 15), (.t 19)]⟩,
  ⟨some 6, none, false, .mv (.t 20)⟩]

def f_ref09_Capital_r6 : List Abs.Op := [
  ⟨some 21, none, false, .mv (.t 5)⟩,
  ⟨some 22, none, false, .mv (.t 6)⟩,
  ⟨some 23, none, false, .bsi 1 1 [(.int .i64 0)] [(0, 1, (.t 22))]⟩,
  ⟨some 24, none, false, .app 1 8 (.t 21) (.t 23)⟩,
  ⟨some 5, none, false, .mv (.t 24)⟩]

def f_ref09_Capital_r7 : List Abs.Op := [
  ⟨some 12, none, false, .mv (.t 7)⟩,
  ⟨some 13, none, false, .bin .add (.t 12) (.c (.int .i64 1))⟩,
  ⟨some 7, none, false, .mv (.t 13)⟩]

def f_ref09_Capital_l8 : Abs.Cmd :=
  (.seq (.seq (.reg [1, 2, 5, 6, 7, 11] f_ref09_Capital_r4) (.ite (.t 11) .nop (.exit 0))) (.seq (.blk 1 (.seq (.reg [1, 2, 5, 6, 7] f_ref09_Capital_r5) (.reg [1, 2, 5, 6, 7] f_ref09_Capital_r6))) (.reg [1, 2, 5, 6, 7] f_ref09_Capital_r7)))

def f_ref09_Capital_r9 : List Abs.Op := [
  ⟨some 25, none, false, .mv (.t 5)⟩,
  ⟨some 4, none, false, .mv (.t 25)⟩]

def a_ref09_Capital : Ann := ⟨[(8, [4]), (5, [1, 2, 5, 6, 7]), (7, [1, 2, 5, 6, 7]), (6, [1, 2, 5, 6, 7]), (4, [1, 2, 5, 6, 7, 11]), (3, [1, 2, 5, 6, 7]), (2, [1, 2, 5, 6]), (1, [1, 2, 5]), (0, [1, 2])], [(0, [1, 2, 5, 6, 7])], [], [5], [], [], [], []⟩
def f_ref09_Capital : Abs.Fn := ⟨2, [.t 4],
  (.seq (.reg [1, 2] f_ref09_Capital_r0) (.seq (.reg [1, 2, 5] f_ref09_Capital_r1) (.seq (.reg [1, 2, 5, 6] f_ref09_Capital_r2) (.seq (.seq (.reg [1, 2, 5, 6, 7] f_ref09_Capital_r3) (.blk 0 (.loop [1, 2, 5, 6, 7] false f_ref09_Capital_l8))) (.seq (.reg [4] f_ref09_Capital_r9) .ret)))))⟩

theorem e_ref09_Capital_r0 : type_of% f_ref09_Capital_r0.eq_1 := by_rfl f_ref09_Capital_r0.eq_1
theorem e_ref09_Capital_r1 : type_of% f_ref09_Capital_r1.eq_1 := by_rfl f_ref09_Capital_r1.eq_1
theorem e_ref09_Capital_r2 : type_of% f_ref09_Capital_r2.eq_1 := by_rfl f_ref09_Capital_r2.eq_1
theorem e_ref09_Capital_r3 : type_of% f_ref09_Capital_r3.eq_1 := by_rfl f_ref09_Capital_r3.eq_1
theorem e_ref09_Capital_r4 : type_of% f_ref09_Capital_r4.eq_1 := by_rfl f_ref09_Capital_r4.eq_1
theorem e_ref09_Capital_r5 : type_of% f_ref09_Capital_r5.eq_1 := by_rfl f_ref09_Capital_r5.eq_1
theorem e_ref09_Capital_r6 : type_of% f_ref09_Capital_r6.eq_1 := by_rfl f_ref09_Capital_r6.eq_1
theorem e_ref09_Capital_r7 : type_of% f_ref09_Capital_r7.eq_1 := by_rfl f_ref09_Capital_r7.eq_1
theorem e_ref09_Capital_l8 : type_of% f_ref09_Capital_l8.eq_1 := by_rfl f_ref09_Capital_l8.eq_1
theorem e_ref09_Capital_r9 : type_of% f_ref09_Capital_r9.eq_1 := by_rfl f_ref09_Capital_r9.eq_1
theorem e_ref09_Capital : type_of% f_ref09_Capital.eq_1 := by_rfl f_ref09_Capital.eq_1
theorem ok_ref09_Capital : fnC Try.prog a_ref09_Capital Try.f48 = some f_ref09_Capital := by kernel_rfl

/-! 49 fumarole/tremor.Reasons -/
def f_tremor_Reasons_r0 : List Abs.Op := [
  ⟨some 2, none, false, .boxi (.t 0)⟩,
  ⟨some 3, none, false, .boxi (.t 1)⟩,
  ⟨some 4, none, false, .alc [] [.nils]⟩,
  ⟨some 5, none, false, .alc [] [(.int .i64 0)]⟩]

def f_tremor_Reasons_r1 : List Abs.Op := [
  ⟨some 15, none, false, .ld true 12 (.t 2)⟩,
  ⟨some 16, none, false, .ld false 1 (.t 3)⟩,
  ⟨some 17, none, false, .bld [.nils, (.int .i64 0), (.int .i64 0), (.int .i64 0), (.int .i64 0), (.int .i64 0), (.int .i64 0), (.int .i64 0), (.int .i64 0), (.int .i64 0), (.int .i64 0), (.int .i64 0), .nils] [(0, 12, (.t 15)), (12, 1, (.t 16))]⟩,
  ⟨some 6, none, false, .alc [] [.nils, (.int .i64 0), (.int .i64 0), (.int .i64 0), (.int .i64 0), (.int .i64 0), (.int .i64 0), (.int .i64 0), (.int .i64 0), (.int .i64 0), (.int .i64 0), (.int .i64 0), .nils]⟩,
  ⟨none, none, false, .st [] 13 (.t 6) (.t 17)⟩]

def f_tremor_Reasons_r2 : List Abs.Op := [
  ⟨some 18, none, false, .ld true 13 (.t 6)⟩,
  ⟨some 19, none, false, .call false (.c (.fn i_tremor_heard_check [] [])) [(.t 18)]⟩,
  ⟨some 7, none, false, .mv (.t 19)⟩]

def f_tremor_Reasons_r3 : List Abs.Op := [
  ⟨some 20, none, false, .mv (.t 7)⟩,
  ⟨some 21, none, false, .bin .neq (.t 20) (.c (.int .i64 0))⟩]

def f_tremor_Reasons_r4 : List Abs.Op := [
  ⟨some 22, none, false, .mv (.t 7)⟩,
  ⟨none, none, false, .st [] 1 (.t 4) (.c .nils)⟩,
  ⟨none, none, false, .st [] 1 (.t 5) (.t 22)⟩]

def f_tremor_Reasons_r5 : List Abs.Op := [
  ⟨some 8, none, false, .alc [(0, 2)] [.nils]⟩]

def f_tremor_Reasons_r6 : List Abs.Op := [
  ⟨some 23, none, false, .fadr 0 (.t 6)⟩,
  ⟨some 24, none, false, .ld true 12 (.t 23)⟩,
  ⟨some 25, none, false, .call false (.c (.fn i_tremor_Net_lattice [] [])) [(.t 24)]⟩]

def f_tremor_Reasons_r7 : List Abs.Op := [
  ⟨some 9, none, false, .alcv [] [(.int .i64 0), (.int .i64 0), (.int .i64 0)]⟩,
  ⟨none, none, false, .stv 9 [] 3 9 (.t 26)⟩]

def f_tremor_Reasons_r8 : List Abs.Op := [
  ⟨some 27, none, false, .ld true 13 (.t 6)⟩,
  ⟨some 28, none, false, .ldv 9 true 3 9⟩,
  ⟨some 29, none, false, .ld false 1 (.t 3)⟩,
  ⟨some 30, none, false, .lenS (.t 29)⟩,
  ⟨some 31, none, false, .call false (.c (.fn i_tremor_heard_spans [] [])) [(.t 27), (.t 28), (.t 30)]⟩,
  ⟨some 10, none, false, .mv (.t 31)⟩]

def f_tremor_Reasons_r9 : List Abs.Op := [
  ⟨some 33, none, false, .mv (.t 10)⟩,
  ⟨some 34, none, false, .call false (.c (.fn i_tremor_common [] [])) [(.t 33)]⟩,
  ⟨some 32, none, false, .mv (.t 34)⟩,
  ⟨some 35, none, false, .ext (.t 32) 0⟩,
  ⟨some 36, none, false, .ext (.t 32) 1⟩,
  ⟨some 11, none, false, .alc [] [(.int .i64 0), (.int .i64 0)]⟩,
  ⟨none, none, false, .st [] 2 (.t 11) (.t 35)⟩,
  ⟨some 12, none, false, .mv (.t 36)⟩]

def f_tremor_Reasons_r10 : List Abs.Op := [
  ⟨some 37, none, false, .mv (.t 12)⟩]

def f_tremor_Reasons_r11 : List Abs.Op := [
  ⟨none, none, false, .st [] 1 (.t 4) (.c .nils)⟩,
  ⟨none, none, false, .st [] 1 (.t 5) (.c (.int .i64 7))⟩]

def f_tremor_Reasons_r12 : List Abs.Op := [
  ⟨some 38, none, false, .mv (.t 10)⟩,
  ⟨some 39, none, false, .mkf i_tremor_Reasons_1 [] [(.t 11)]⟩,
  ⟨some 40, none, false, .call false (.c (.fn i_slices_IndexFunc_tremor_Range [] [])) [(.t 38), (.t 39)]⟩,
  ⟨some 13, none, false, .mv (.t 40)⟩]

def f_tremor_Reasons_r13 : List Abs.Op := [
  ⟨some 41, none, false, .mv (.t 10)⟩,
  ⟨some 42, none, false, .mkf i_tremor_Reasons_2 [] [(.t 11)]⟩,
  ⟨some 43, none, false, .call false (.c (.fn i_slices_IndexFunc_tremor_Range [] [])) [(.t 41), (.t 42)]⟩,
  ⟨some 14, none, false, .mv (.t 43)⟩]

def f_tremor_Reasons_r14 : List Abs.Op := [
  ⟨some 44, none, false, .ld false 1 (.t 8)⟩,
  ⟨some 45, none, false, .mv (.t 13)⟩,
  ⟨some 46, none, false, .mv (.t 14)⟩,
  ⟨some 47, none, false, .bld [(.int .i64 0), (.int .i64 0)] [(0, 1, (.t 45)), (1, 1, (.t 46))]⟩,
  ⟨some 48, none, false, .bsi 1 2 [(.int .i64 0), (.int .i64 0)] [(0, 2, (.t 47))]⟩,
  ⟨some 49, none, false, .app 2 16 (.t 44) (.t 48)⟩,
  ⟨none, none, false, .st [(0, 2)] 1 (.t 8) (.t 49)⟩]

def f_tremor_Reasons_a15 : Abs.Cmd :=
  (.reg [3, 4, 5, 6, 8, 9] f_tremor_Reasons_r7)

def f_tremor_Reasons_b15 : Abs.Cmd :=
  (.blk 1 (.seq (.reg [4, 5, 8, 10] f_tremor_Reasons_r8) (.seq (.reg [4, 5, 8, 10, 11, 12] f_tremor_Reasons_r9) (.seq (.seq (.reg [4, 5, 8, 10, 11, 37] f_tremor_Reasons_r10) (.ite (.t 37) (.seq (.reg [] f_tremor_Reasons_r11) .ret) .nop)) (.seq (.reg [8, 10, 11, 13] f_tremor_Reasons_r12) (.seq (.reg [8, 13, 14] f_tremor_Reasons_r13) (.reg [] f_tremor_Reasons_r14)))))))

def f_tremor_Reasons_r16 : List Abs.Op := [
  ⟨some 50, none, false, .ld false 1 (.t 8)⟩,
  ⟨none, none, false, .st [] 1 (.t 4) (.t 50)⟩,
  ⟨none, none, false, .st [] 1 (.t 5) (.c (.int .i64 0))⟩]

def a_tremor_Reasons : Ann := ⟨[(15, [4, 5]), (14, []), (13, [8, 13, 14]), (12, [8, 10, 11, 13]), (11, []), (10, [4, 5, 8, 10, 11, 37]), (9, [4, 5, 8, 10, 11, 12]), (8, [4, 5, 8, 10]), (7, [3, 4, 5, 6, 8, 9]), (6, [3, 4, 5, 6, 8, 25]), (5, [3, 4, 5, 6, 8]), (4, [4, 5]), (3, [3, 4, 5, 6, 7, 21]), (2, [3, 4, 5, 6, 7]), (1, [3, 4, 5, 6]), (0, [2, 3, 4, 5])], [(0, [3, 4, 5, 6, 8])], [], [4, 5, 6, 8, 9, 11], [9], [(5000, [(0, 2)]), (14006, [(0, 2)])], [], []⟩
def f_tremor_Reasons : Abs.Fn := ⟨2, [.c 4 false 1, .c 5 false 1],
  (.seq (.reg [2, 3, 4, 5] f_tremor_Reasons_r0) (.seq (.reg [3, 4, 5, 6] f_tremor_Reasons_r1) (.seq (.seq (.reg [3, 4, 5, 6, 7] f_tremor_Reasons_r2) (.seq (.reg [3, 4, 5, 6, 7, 21] f_tremor_Reasons_r3) (.ite (.t 21) (.seq (.reg [4, 5] f_tremor_Reasons_r4) .ret) .nop))) (.seq (.reg [3, 4, 5, 6, 8] f_tremor_Reasons_r5) (.seq (.seq (.reg [3, 4, 5, 6, 8, 25] f_tremor_Reasons_r6) (.blk 0 (.rngf [3, 4, 5, 6, 8] (.t 25) [26] f_tremor_Reasons_a15 f_tremor_Reasons_b15))) (.seq (.reg [4, 5] f_tremor_Reasons_r16) .ret))))))⟩

theorem e_tremor_Reasons_r0 : type_of% f_tremor_Reasons_r0.eq_1 := by_rfl f_tremor_Reasons_r0.eq_1
theorem e_tremor_Reasons_r1 : type_of% f_tremor_Reasons_r1.eq_1 := by_rfl f_tremor_Reasons_r1.eq_1
theorem e_tremor_Reasons_r2 : type_of% f_tremor_Reasons_r2.eq_1 := by_rfl f_tremor_Reasons_r2.eq_1
theorem e_tremor_Reasons_r3 : type_of% f_tremor_Reasons_r3.eq_1 := by_rfl f_tremor_Reasons_r3.eq_1
theorem e_tremor_Reasons_r4 : type_of% f_tremor_Reasons_r4.eq_1 := by_rfl f_tremor_Reasons_r4.eq_1
theorem e_tremor_Reasons_r5 : type_of% f_tremor_Reasons_r5.eq_1 := by_rfl f_tremor_Reasons_r5.eq_1
theorem e_tremor_Reasons_r6 : type_of% f_tremor_Reasons_r6.eq_1 := by_rfl f_tremor_Reasons_r6.eq_1
theorem e_tremor_Reasons_r7 : type_of% f_tremor_Reasons_r7.eq_1 := by_rfl f_tremor_Reasons_r7.eq_1
theorem e_tremor_Reasons_r8 : type_of% f_tremor_Reasons_r8.eq_1 := by_rfl f_tremor_Reasons_r8.eq_1
theorem e_tremor_Reasons_r9 : type_of% f_tremor_Reasons_r9.eq_1 := by_rfl f_tremor_Reasons_r9.eq_1
theorem e_tremor_Reasons_r10 : type_of% f_tremor_Reasons_r10.eq_1 := by_rfl f_tremor_Reasons_r10.eq_1
theorem e_tremor_Reasons_r11 : type_of% f_tremor_Reasons_r11.eq_1 := by_rfl f_tremor_Reasons_r11.eq_1
theorem e_tremor_Reasons_r12 : type_of% f_tremor_Reasons_r12.eq_1 := by_rfl f_tremor_Reasons_r12.eq_1
theorem e_tremor_Reasons_r13 : type_of% f_tremor_Reasons_r13.eq_1 := by_rfl f_tremor_Reasons_r13.eq_1
theorem e_tremor_Reasons_r14 : type_of% f_tremor_Reasons_r14.eq_1 := by_rfl f_tremor_Reasons_r14.eq_1
theorem e_tremor_Reasons_a15 : type_of% f_tremor_Reasons_a15.eq_1 := by_rfl f_tremor_Reasons_a15.eq_1
theorem e_tremor_Reasons_b15 : type_of% f_tremor_Reasons_b15.eq_1 := by_rfl f_tremor_Reasons_b15.eq_1
theorem e_tremor_Reasons_r16 : type_of% f_tremor_Reasons_r16.eq_1 := by_rfl f_tremor_Reasons_r16.eq_1
theorem e_tremor_Reasons : type_of% f_tremor_Reasons.eq_1 := by_rfl f_tremor_Reasons.eq_1
theorem ok_tremor_Reasons : fnC Try.prog a_tremor_Reasons Try.f49 = some f_tremor_Reasons := by kernel_rfl

/-! 50 fumarole/tremor.ProveNone -/
def f_tremor_ProveNone_r0 : List Abs.Op := [
  ⟨some 3, none, false, .boxi (.t 0)⟩,
  ⟨some 4, none, false, .boxi (.t 1)⟩,
  ⟨some 5, none, false, .boxi (.t 2)⟩,
  ⟨some 6, none, false, .alc [] [(.bool false)]⟩]

def f_tremor_ProveNone_r1 : List Abs.Op := [
  ⟨some 12, none, false, .ld true 12 (.t 3)⟩,
  ⟨some 13, none, false, .ld false 1 (.t 4)⟩,
  ⟨some 14, none, false, .bld [.nils, (.int .i64 0), (.int .i64 0), (.int .i64 0), (.int .i64 0), (.int .i64 0), (.int .i64 0), (.int .i64 0), (.int .i64 0), (.int .i64 0), (.int .i64 0), (.int .i64 0), .nils] [(0, 12, (.t 12)), (12, 1, (.t 13))]⟩,
  ⟨some 7, none, false, .alc [] [.nils, (.int .i64 0), (.int .i64 0), (.int .i64 0), (.int .i64 0), (.int .i64 0), (.int .i64 0), (.int .i64 0), (.int .i64 0), (.int .i64 0), (.int .i64 0), (.int .i64 0), .nils]⟩,
  ⟨none, none, false, .st [] 13 (.t 7) (.t 14)⟩]

def f_tremor_ProveNone_r2 : List Abs.Op := [
  ⟨some 15, none, false, .ld true 13 (.t 7)⟩,
  ⟨some 16, none, false, .call false (.c (.fn i_tremor_heard_check [] [])) [(.t 15)]⟩,
  ⟨some 17, none, false, .bin .neq (.t 16) (.c (.int .i64 0))⟩]

def f_tremor_ProveNone_r3 : List Abs.Op := [
  ⟨none, none, false, .st [] 1 (.t 6) (.c (.bool false))⟩]

def f_tremor_ProveNone_r4 : List Abs.Op := [
  ⟨some 8, none, false, .alc [] [(.int .i64 0)]⟩,
  ⟨none, none, false, .st [] 1 (.t 8) (.c (.int .i64 0))⟩]

def f_tremor_ProveNone_r5 : List Abs.Op := [
  ⟨some 18, none, false, .fadr 0 (.t 7)⟩,
  ⟨some 19, none, false, .ld true 12 (.t 18)⟩,
  ⟨some 20, none, false, .call false (.c (.fn i_tremor_Net_lattice [] [])) [(.t 19)]⟩]

def f_tremor_ProveNone_r6 : List Abs.Op := [
  ⟨some 9, none, false, .alcv [] [(.int .i64 0), (.int .i64 0), (.int .i64 0)]⟩,
  ⟨none, none, false, .stv 9 [] 3 9 (.t 21)⟩]

def f_tremor_ProveNone_r7 : List Abs.Op := [
  ⟨some 22, none, false, .ld false 1 (.t 8)⟩,
  ⟨some 23, none, false, .ld false 1 (.t 5)⟩,
  ⟨some 24, none, false, .lenS (.t 23)⟩,
  ⟨some 25, none, false, .bin .eql (.t 22) (.t 24)⟩]

def f_tremor_ProveNone_r8 : List Abs.Op := [
  ⟨none, none, false, .st [] 1 (.t 6) (.c (.bool false))⟩]

def f_tremor_ProveNone_r9 : List Abs.Op := [
  ⟨some 26, none, true, .ld false 1 (.t 5)⟩,
  ⟨some 27, none, true, .ld false 1 (.t 8)⟩,
  ⟨some 28, none, true, .idxS 2 (.t 26) (.t 27)⟩,
  ⟨some 29, none, true, .fadr 0 (.t 28)⟩,
  ⟨some 30, none, true, .ld false 1 (.t 29)⟩,
  ⟨some 31, none, true, .ld false 1 (.t 5)⟩,
  ⟨some 32, none, true, .ld false 1 (.t 8)⟩,
  ⟨some 33, none, true, .idxS 2 (.t 31) (.t 32)⟩,
  ⟨some 34, none, true, .fadr 1 (.t 33)⟩,
  ⟨some 35, none, true, .ld false 1 (.t 34)⟩,
  ⟨some 10, none, true, .mv (.t 30)⟩,
  ⟨some 11, none, false, .mv (.t 35)⟩]

def f_tremor_ProveNone_r10 : List Abs.Op := [
  ⟨some 36, none, true, .mv (.t 10)⟩,
  ⟨some 37, none, true, .ld false 1 (.t 4)⟩,
  ⟨some 38, none, true, .lenS (.t 37)⟩,
  ⟨some 39, none, true, .bin .sub (.t 38) (.c (.int .i64 1))⟩,
  ⟨some 40, none, true, .call false (.c (.fn i_tremor_within [] [])) [(.t 36), (.c (.int .i64 0)), (.t 39)]⟩,
  ⟨some 41, none, true, .un .not (.t 40)⟩,
  ⟨some 42, none, true, .mv (.t 41)⟩,
  ⟨some 43, some (42, false), true, .mv (.t 11)⟩,
  ⟨some 44, some (42, false), true, .ld false 1 (.t 4)⟩,
  ⟨some 45, some (42, false), true, .lenS (.t 44)⟩,
  ⟨some 46, some (42, false), true, .bin .sub (.t 45) (.c (.int .i64 1))⟩,
  ⟨some 47, some (42, false), true, .call false (.c (.fn i_tremor_within [] [])) [(.t 43), (.c (.int .i64 0)), (.t 46)]⟩,
  ⟨some 48, some (42, false), true, .un .not (.t 47)⟩,
  ⟨some 49, none, true, .pick (.t 42) (.c (.bool true)) (.t 48)⟩,
  ⟨some 50, none, true, .mv (.t 49)⟩,
  ⟨some 51, some (50, false), true, .ld true 13 (.t 7)⟩,
  ⟨some 52, some (50, false), true, .ldv 9 true 3 9⟩,
  ⟨some 53, some (50, false), true, .mv (.t 10)⟩,
  ⟨some 54, some (50, false), true, .call false (.c (.fn i_tremor_heard_span [] [])) [(.t 51), (.t 52), (.t 53)]⟩,
  ⟨some 55, some (50, false), true, .fld false 0 1 (.t 54)⟩,
  ⟨some 56, some (50, false), true, .ld true 13 (.t 7)⟩,
  ⟨some 57, some (50, false), true, .ldv 9 true 3 9⟩,
  ⟨some 58, some (50, false), true, .mv (.t 11)⟩,
  ⟨some 59, some (50, false), true, .call false (.c (.fn i_tremor_heard_span [] [])) [(.t 56), (.t 57), (.t 58)]⟩,
  ⟨some 60, some (50, false), true, .fld false 1 1 (.t 59)⟩,
  ⟨some 61, some (50, false), false, .bin .leq (.t 55) (.t 60)⟩,
  ⟨some 62, none, false, .pick (.t 50) (.c (.bool true)) (.t 61)⟩]

def f_tremor_ProveNone_r11 : List Abs.Op := [
  ⟨none, none, false, .st [] 1 (.t 6) (.c (.bool false))⟩]

def f_tremor_ProveNone_r12 : List Abs.Op := [
  ⟨some 63, none, false, .ld false 1 (.t 8)⟩,
  ⟨some 64, none, false, .bin .add (.t 63) (.c (.int .i64 1))⟩,
  ⟨none, none, false, .st [] 1 (.t 8) (.t 64)⟩]

def f_tremor_ProveNone_a13 : Abs.Cmd :=
  (.reg [4, 5, 6, 7, 8, 9] f_tremor_ProveNone_r6)

def f_tremor_ProveNone_b13 : Abs.Cmd :=
  (.blk 1 (.seq (.seq (.reg [4, 5, 6, 7, 8, 9, 25] f_tremor_ProveNone_r7) (.ite (.t 25) (.seq (.reg [] f_tremor_ProveNone_r8) .ret) .nop)) (.seq (.reg [4, 6, 7, 8, 9, 10, 11] f_tremor_ProveNone_r9) (.seq (.seq (.reg [6, 8, 62] f_tremor_ProveNone_r10) (.ite (.t 62) (.seq (.reg [] f_tremor_ProveNone_r11) .ret) .nop)) (.reg [] f_tremor_ProveNone_r12)))))

def f_tremor_ProveNone_r14 : List Abs.Op := [
  ⟨some 65, none, false, .ld false 1 (.t 8)⟩,
  ⟨some 66, none, false, .ld false 1 (.t 5)⟩,
  ⟨some 67, none, false, .lenS (.t 66)⟩,
  ⟨some 68, none, false, .bin .eql (.t 65) (.t 67)⟩,
  ⟨none, none, false, .st [] 1 (.t 6) (.t 68)⟩]

def a_tremor_ProveNone : Ann := ⟨[(13, [6]), (12, []), (11, []), (10, [6, 8, 62]), (9, [4, 6, 7, 8, 9, 10, 11]), (8, []), (7, [4, 5, 6, 7, 8, 9, 25]), (6, [4, 5, 6, 7, 8, 9]), (5, [4, 5, 6, 7, 8, 20]), (4, [4, 5, 6, 7, 8]), (3, [6]), (2, [4, 5, 6, 7, 17]), (1, [4, 5, 6, 7]), (0, [3, 4, 5, 6])], [(0, [4, 5, 6, 7, 8])], [], [6, 7, 8, 9], [9], [], [], []⟩
def f_tremor_ProveNone : Abs.Fn := ⟨3, [.c 6 false 1],
  (.seq (.reg [3, 4, 5, 6] f_tremor_ProveNone_r0) (.seq (.reg [4, 5, 6, 7] f_tremor_ProveNone_r1) (.seq (.seq (.reg [4, 5, 6, 7, 17] f_tremor_ProveNone_r2) (.ite (.t 17) (.seq (.reg [6] f_tremor_ProveNone_r3) .ret) .nop)) (.seq (.reg [4, 5, 6, 7, 8] f_tremor_ProveNone_r4) (.seq (.seq (.reg [4, 5, 6, 7, 8, 20] f_tremor_ProveNone_r5) (.blk 0 (.rngf [4, 5, 6, 7, 8] (.t 20) [21] f_tremor_ProveNone_a13 f_tremor_ProveNone_b13))) (.seq (.reg [6] f_tremor_ProveNone_r14) .ret))))))⟩

theorem e_tremor_ProveNone_r0 : type_of% f_tremor_ProveNone_r0.eq_1 := by_rfl f_tremor_ProveNone_r0.eq_1
theorem e_tremor_ProveNone_r1 : type_of% f_tremor_ProveNone_r1.eq_1 := by_rfl f_tremor_ProveNone_r1.eq_1
theorem e_tremor_ProveNone_r2 : type_of% f_tremor_ProveNone_r2.eq_1 := by_rfl f_tremor_ProveNone_r2.eq_1
theorem e_tremor_ProveNone_r3 : type_of% f_tremor_ProveNone_r3.eq_1 := by_rfl f_tremor_ProveNone_r3.eq_1
theorem e_tremor_ProveNone_r4 : type_of% f_tremor_ProveNone_r4.eq_1 := by_rfl f_tremor_ProveNone_r4.eq_1
theorem e_tremor_ProveNone_r5 : type_of% f_tremor_ProveNone_r5.eq_1 := by_rfl f_tremor_ProveNone_r5.eq_1
theorem e_tremor_ProveNone_r6 : type_of% f_tremor_ProveNone_r6.eq_1 := by_rfl f_tremor_ProveNone_r6.eq_1
theorem e_tremor_ProveNone_r7 : type_of% f_tremor_ProveNone_r7.eq_1 := by_rfl f_tremor_ProveNone_r7.eq_1
theorem e_tremor_ProveNone_r8 : type_of% f_tremor_ProveNone_r8.eq_1 := by_rfl f_tremor_ProveNone_r8.eq_1
theorem e_tremor_ProveNone_r9 : type_of% f_tremor_ProveNone_r9.eq_1 := by_rfl f_tremor_ProveNone_r9.eq_1
theorem e_tremor_ProveNone_r10 : type_of% f_tremor_ProveNone_r10.eq_1 := by_rfl f_tremor_ProveNone_r10.eq_1
theorem e_tremor_ProveNone_r11 : type_of% f_tremor_ProveNone_r11.eq_1 := by_rfl f_tremor_ProveNone_r11.eq_1
theorem e_tremor_ProveNone_r12 : type_of% f_tremor_ProveNone_r12.eq_1 := by_rfl f_tremor_ProveNone_r12.eq_1
theorem e_tremor_ProveNone_a13 : type_of% f_tremor_ProveNone_a13.eq_1 := by_rfl f_tremor_ProveNone_a13.eq_1
theorem e_tremor_ProveNone_b13 : type_of% f_tremor_ProveNone_b13.eq_1 := by_rfl f_tremor_ProveNone_b13.eq_1
theorem e_tremor_ProveNone_r14 : type_of% f_tremor_ProveNone_r14.eq_1 := by_rfl f_tremor_ProveNone_r14.eq_1
theorem e_tremor_ProveNone : type_of% f_tremor_ProveNone.eq_1 := by_rfl f_tremor_ProveNone.eq_1
theorem ok_tremor_ProveNone : fnC Try.prog a_tremor_ProveNone Try.f50 = some f_tremor_ProveNone := by kernel_rfl

/-! 51 fumarole/fumarolelaw09.Pairs -/
def f_law09_Pairs_r0 : List Abs.Op := [
  ⟨some 2, none, false, .mv (.c .nils)⟩]

def f_law09_Pairs_r1 : List Abs.Op := [
  ⟨some 3, none, false, .nilb 2⟩]

def f_law09_Pairs_r2 : List Abs.Op := [
  ⟨some 4, none, false, .mv (.c (.int .i64 0))⟩]

def f_law09_Pairs_r3 : List Abs.Op := [
  ⟨some 5, none, false, .mv (.t 4)⟩,
  ⟨some 6, none, false, .mv (.t 0)⟩,
  ⟨some 7, none, false, .lenS (.t 6)⟩,
  ⟨some 8, none, false, .bin .lss (.t 5) (.t 7)⟩]

def f_law09_Pairs_r4 : List Abs.Op := [
  ⟨some 11, none, true, .mv (.t 3)⟩,
  ⟨some 12, none, true, .mv (.t 0)⟩,
  ⟨some 13, none, true, .mv (.t 4)⟩,
  ⟨some 14, none, true, .idxS 2 (.t 12) (.t 13)⟩,
  ⟨some 15, none, true, .fadr 0 (.t 14)⟩,
  ⟨some 16, none, true, .ld false 1 (.t 15)⟩,
  ⟨some 17, none, true, .mv (.t 0)⟩,
  ⟨some 18, none, true, .mv (.t 4)⟩,
  ⟨some 19, none, true, .idxS 2 (.t 17) (.t 18)⟩,
  ⟨some 20, none, true, .fadr 1 (.t 19)⟩,
  ⟨some 21, none, true, .ld false 1 (.t 20)⟩,
  ⟨some 22, none, true, .bld [(.int .i64 0), (.int .i64 0)] [(0, 1, (.t 16)), (1, 1, (.t 21))]⟩,
  ⟨some 23, none, true, .bsi 1 2 [(.int .i64 0), (.int .i64 0)] [(0, 2, (.t 22))]⟩,
  ⟨some 24, none, false, .app 2 16 (.t 11) (.t 23)⟩,
  ⟨some 3, none, false, .mv (.t 24)⟩]

def f_law09_Pairs_r5 : List Abs.Op := [
  ⟨some 9, none, false, .mv (.t 4)⟩,
  ⟨some 10, none, false, .bin .add (.t 9) (.c (.int .i64 1))⟩,
  ⟨some 4, none, false, .mv (.t 10)⟩]

def f_law09_Pairs_l6 : Abs.Cmd :=
  (.seq (.seq (.reg [0, 3, 4, 8] f_law09_Pairs_r3) (.ite (.t 8) .nop (.exit 0))) (.seq (.blk 1 (.reg [0, 3, 4] f_law09_Pairs_r4)) (.reg [0, 3, 4] f_law09_Pairs_r5)))

def f_law09_Pairs_r7 : List Abs.Op := [
  ⟨some 25, none, false, .mv (.t 3)⟩,
  ⟨some 2, none, false, .mv (.t 25)⟩]

def a_law09_Pairs : Ann := ⟨[(6, [2]), (4, [0, 3, 4]), (5, [0, 3, 4]), (3, [0, 3, 4, 8]), (2, [0, 3, 4]), (1, [0, 3]), (0, [0])], [(0, [0, 3, 4])], [], [3], [], [], [], []⟩
def f_law09_Pairs : Abs.Fn := ⟨1, [.t 2],
  (.seq (.reg [0] f_law09_Pairs_r0) (.seq (.reg [0, 3] f_law09_Pairs_r1) (.seq (.seq (.reg [0, 3, 4] f_law09_Pairs_r2) (.blk 0 (.loop [0, 3, 4] false f_law09_Pairs_l6))) (.seq (.reg [2] f_law09_Pairs_r7) .ret))))⟩

theorem e_law09_Pairs_r0 : type_of% f_law09_Pairs_r0.eq_1 := by_rfl f_law09_Pairs_r0.eq_1
theorem e_law09_Pairs_r1 : type_of% f_law09_Pairs_r1.eq_1 := by_rfl f_law09_Pairs_r1.eq_1
theorem e_law09_Pairs_r2 : type_of% f_law09_Pairs_r2.eq_1 := by_rfl f_law09_Pairs_r2.eq_1
theorem e_law09_Pairs_r3 : type_of% f_law09_Pairs_r3.eq_1 := by_rfl f_law09_Pairs_r3.eq_1
theorem e_law09_Pairs_r4 : type_of% f_law09_Pairs_r4.eq_1 := by_rfl f_law09_Pairs_r4.eq_1
theorem e_law09_Pairs_r5 : type_of% f_law09_Pairs_r5.eq_1 := by_rfl f_law09_Pairs_r5.eq_1
theorem e_law09_Pairs_l6 : type_of% f_law09_Pairs_l6.eq_1 := by_rfl f_law09_Pairs_l6.eq_1
theorem e_law09_Pairs_r7 : type_of% f_law09_Pairs_r7.eq_1 := by_rfl f_law09_Pairs_r7.eq_1
theorem e_law09_Pairs : type_of% f_law09_Pairs.eq_1 := by_rfl f_law09_Pairs.eq_1
theorem ok_law09_Pairs : fnC Try.prog a_law09_Pairs Try.f51 = some f_law09_Pairs := by kernel_rfl

/-! 52 fumarole/tremor.Blame -/
def f_tremor_Blame_r0 : List Abs.Op := [
  ⟨some 2, none, false, .boxi (.t 0)⟩,
  ⟨some 4, none, false, .mv (.c (.int .i64 0))⟩,
  ⟨some 5, none, false, .mv (.c (.int .i64 0))⟩]

def f_tremor_Blame_r1 : List Abs.Op := [
  ⟨some 9, none, false, .ld true 12 (.t 2)⟩,
  ⟨some 10, none, false, .mv (.t 1)⟩,
  ⟨some 11, none, false, .bld [.nils, (.int .i64 0), (.int .i64 0), (.int .i64 0), (.int .i64 0), (.int .i64 0), (.int .i64 0), (.int .i64 0), (.int .i64 0), (.int .i64 0), (.int .i64 0), (.int .i64 0), .nils] [(0, 12, (.t 9)), (12, 1, (.t 10))]⟩,
  ⟨some 6, none, false, .alcv [] [.nils, (.int .i64 0), (.int .i64 0), (.int .i64 0), (.int .i64 0), (.int .i64 0), (.int .i64 0), (.int .i64 0), (.int .i64 0), (.int .i64 0), (.int .i64 0), (.int .i64 0), .nils]⟩,
  ⟨none, none, false, .stv 6 [] 13 6 (.t 11)⟩]

def f_tremor_Blame_r2 : List Abs.Op := [
  ⟨some 12, none, false, .ldv 6 true 13 6⟩,
  ⟨some 13, none, false, .call false (.c (.fn i_tremor_heard_check [] [])) [(.t 12)]⟩,
  ⟨some 7, none, false, .mv (.t 13)⟩]

def f_tremor_Blame_r3 : List Abs.Op := [
  ⟨some 14, none, false, .mv (.t 7)⟩,
  ⟨some 15, none, false, .bin .neq (.t 14) (.c (.int .i64 0))⟩]

def f_tremor_Blame_r4 : List Abs.Op := [
  ⟨some 16, none, false, .mv (.t 7)⟩,
  ⟨some 4, none, false, .mv (.c (.int .i64 0))⟩,
  ⟨some 5, none, false, .mv (.t 16)⟩]

def f_tremor_Blame_r5 : List Abs.Op := [
  ⟨some 17, none, false, .mv (.t 1)⟩,
  ⟨some 18, none, false, .lenS (.t 17)⟩,
  ⟨some 19, none, false, .mv (.c (.int .i64 0))⟩]

def f_tremor_Blame_r6 : List Abs.Op := [
  ⟨some 20, none, false, .bin .lss (.t 19) (.t 18)⟩]

def f_tremor_Blame_r7 : List Abs.Op := [
  ⟨some 21, none, false, .mv (.t 19)⟩,
  ⟨some 8, none, false, .mv (.t 21)⟩]

def f_tremor_Blame_r8 : List Abs.Op := [
  ⟨some 22, none, false, .ldv 6 true 13 6⟩,
  ⟨some 23, none, false, .mv (.t 8)⟩,
  ⟨some 24, none, false, .bin .add (.t 23) (.c (.int .i64 1))⟩,
  ⟨some 25, none, false, .call false (.c (.fn i_tremor_heard_located [] [])) [(.t 22), (.t 24)]⟩,
  ⟨some 26, none, false, .lenS (.t 25)⟩,
  ⟨some 27, none, false, .bin .eql (.t 26) (.c (.int .i64 0))⟩]

def f_tremor_Blame_r9 : List Abs.Op := [
  ⟨some 28, none, false, .mv (.t 8)⟩,
  ⟨some 4, none, false, .mv (.t 28)⟩,
  ⟨some 5, none, false, .mv (.c (.int .i64 0))⟩]

def f_tremor_Blame_r10 : List Abs.Op := [
  ⟨some 29, none, false, .bin .add (.t 19) (.c (.int .i64 1))⟩,
  ⟨some 19, none, false, .mv (.t 29)⟩]

def f_tremor_Blame_l11 : Abs.Cmd :=
  (.seq (.reg [6, 18, 19, 20] f_tremor_Blame_r6) (.seq (.ite (.t 20) .nop (.exit 0)) (.seq (.blk 1 (.seq (.reg [6, 8, 18, 19] f_tremor_Blame_r7) (.seq (.reg [6, 8, 18, 19, 27] f_tremor_Blame_r8) (.ite (.t 27) (.seq (.reg [4, 5] f_tremor_Blame_r9) .ret) .nop)))) (.reg [6, 18, 19] f_tremor_Blame_r10))))

def f_tremor_Blame_r12 : List Abs.Op := [
  ⟨some 4, none, false, .mv (.c (.int .i64 0))⟩,
  ⟨some 5, none, false, .mv (.c (.int .i64 7))⟩]

def a_tremor_Blame : Ann := ⟨[(11, [4, 5]), (10, [6, 18, 19]), (9, [4, 5]), (8, [6, 8, 18, 19, 27]), (7, [6, 8, 18, 19]), (6, [6, 18, 19, 20]), (5, [6, 18, 19]), (4, [4, 5]), (3, [1, 6, 7, 15]), (2, [1, 6, 7]), (1, [1, 6]), (0, [1, 2])], [(0, [6, 18, 19])], [], [6], [6], [], [], []⟩
def f_tremor_Blame : Abs.Fn := ⟨2, [.t 4, .t 5],
  (.seq (.reg [1, 2] f_tremor_Blame_r0) (.seq (.reg [1, 6] f_tremor_Blame_r1) (.seq (.seq (.reg [1, 6, 7] f_tremor_Blame_r2) (.seq (.reg [1, 6, 7, 15] f_tremor_Blame_r3) (.ite (.t 15) (.seq (.reg [4, 5] f_tremor_Blame_r4) .ret) .nop))) (.seq (.seq (.reg [6, 18, 19] f_tremor_Blame_r5) (.blk 0 (.loop [6, 18, 19] false f_tremor_Blame_l11))) (.seq (.reg [4, 5] f_tremor_Blame_r12) .ret)))))⟩

theorem e_tremor_Blame_r0 : type_of% f_tremor_Blame_r0.eq_1 := by_rfl f_tremor_Blame_r0.eq_1
theorem e_tremor_Blame_r1 : type_of% f_tremor_Blame_r1.eq_1 := by_rfl f_tremor_Blame_r1.eq_1
theorem e_tremor_Blame_r2 : type_of% f_tremor_Blame_r2.eq_1 := by_rfl f_tremor_Blame_r2.eq_1
theorem e_tremor_Blame_r3 : type_of% f_tremor_Blame_r3.eq_1 := by_rfl f_tremor_Blame_r3.eq_1
theorem e_tremor_Blame_r4 : type_of% f_tremor_Blame_r4.eq_1 := by_rfl f_tremor_Blame_r4.eq_1
theorem e_tremor_Blame_r5 : type_of% f_tremor_Blame_r5.eq_1 := by_rfl f_tremor_Blame_r5.eq_1
theorem e_tremor_Blame_r6 : type_of% f_tremor_Blame_r6.eq_1 := by_rfl f_tremor_Blame_r6.eq_1
theorem e_tremor_Blame_r7 : type_of% f_tremor_Blame_r7.eq_1 := by_rfl f_tremor_Blame_r7.eq_1
theorem e_tremor_Blame_r8 : type_of% f_tremor_Blame_r8.eq_1 := by_rfl f_tremor_Blame_r8.eq_1
theorem e_tremor_Blame_r9 : type_of% f_tremor_Blame_r9.eq_1 := by_rfl f_tremor_Blame_r9.eq_1
theorem e_tremor_Blame_r10 : type_of% f_tremor_Blame_r10.eq_1 := by_rfl f_tremor_Blame_r10.eq_1
theorem e_tremor_Blame_l11 : type_of% f_tremor_Blame_l11.eq_1 := by_rfl f_tremor_Blame_l11.eq_1
theorem e_tremor_Blame_r12 : type_of% f_tremor_Blame_r12.eq_1 := by_rfl f_tremor_Blame_r12.eq_1
theorem e_tremor_Blame : type_of% f_tremor_Blame.eq_1 := by_rfl f_tremor_Blame.eq_1
theorem ok_tremor_Blame : fnC Try.prog a_tremor_Blame Try.f52 = some f_tremor_Blame := by kernel_rfl

end Go.Proofs.Yticpenoicajakaa
