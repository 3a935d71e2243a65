/- The code of functions of the program, in the small instruction set; each is what the translation makes of it. -/
import Derived.Test.YticpenoicajakaaIds
set_option linter.unusedVariables false
set_option maxRecDepth 100000
namespace Go.Proofs.Yticpenoicajakaa
open Go Go.Abs
/-! 12 fumarole/fumarolelaw09.TremorEither -/
def f_law09_TremorEither_r0 : List Abs.Op := [
  ⟨some 3, none, false, .boxi (.t 0)⟩,
  ⟨some 6, none, false, .mv (.c (.bool false))⟩]

def f_law09_TremorEither_r1 : List Abs.Op := [
  ⟨some 12, none, false, .ld true 12 (.t 3)⟩,
  ⟨some 13, none, false, .mv (.t 1)⟩,
  ⟨some 14, none, false, .call false (.c (.fn i_law09_wrong [] [])) [(.t 12), (.t 13)]⟩,
  ⟨some 15, none, false, .bin .neq (.t 14) (.c (.int .i64 0))⟩,
  ⟨some 16, none, false, .mv (.t 15)⟩,
  ⟨some 17, some (16, false), false, .mv (.t 1)⟩,
  ⟨some 18, some (16, false), false, .lenS (.t 17)⟩,
  ⟨some 19, some (16, false), false, .bin .gtr (.t 18) (.c (.int .i64 20))⟩,
  ⟨some 20, none, false, .pick (.t 16) (.c (.bool true)) (.t 19)⟩,
  ⟨some 21, none, false, .mv (.t 20)⟩,
  ⟨some 22, some (21, false), false, .mv (.t 2)⟩,
  ⟨some 23, some (21, false), false, .lenS (.t 22)⟩,
  ⟨some 24, some (21, false), false, .bin .gtr (.t 23) (.c (.int .i64 2000))⟩,
  ⟨some 25, none, false, .pick (.t 21) (.c (.bool true)) (.t 24)⟩]

def f_law09_TremorEither_r2 : List Abs.Op := [
  ⟨some 26, none, false, .call false (.c (.fn i_law09_awake [] [])) []⟩,
  ⟨some 6, none, false, .mv (.t 26)⟩]

def f_law09_TremorEither_r3 : List Abs.Op := [
  ⟨some 28, none, false, .ld true 12 (.t 3)⟩,
  ⟨some 29, none, false, .call false (.c (.fn i_law09_Net [] [])) [(.t 28)]⟩,
  ⟨some 30, none, false, .mv (.t 1)⟩,
  ⟨some 31, none, false, .call false (.c (.fn i_law09_Picks [] [])) [(.t 30)]⟩,
  ⟨some 32, none, false, .call false (.c (.fn i_tremor_Locate [] [])) [(.t 29), (.t 31)]⟩,
  ⟨some 27, none, false, .mv (.t 32)⟩,
  ⟨some 33, none, false, .ext (.t 27) 0⟩,
  ⟨some 34, none, false, .ext (.t 27) 1⟩,
  ⟨some 7, none, false, .mv (.t 33)⟩,
  ⟨some 8, none, false, .mv (.t 34)⟩]

def f_law09_TremorEither_r4 : List Abs.Op := [
  ⟨some 36, none, false, .ld true 12 (.t 3)⟩,
  ⟨some 37, none, false, .call false (.c (.fn i_law09_Net [] [])) [(.t 36)]⟩,
  ⟨some 38, none, false, .mv (.t 1)⟩,
  ⟨some 39, none, false, .call false (.c (.fn i_law09_Picks [] [])) [(.t 38)]⟩,
  ⟨some 40, none, false, .call false (.c (.fn i_tremor_Reasons [] [])) [(.t 37), (.t 39)]⟩,
  ⟨some 35, none, false, .mv (.t 40)⟩,
  ⟨some 41, none, false, .ext (.t 35) 0⟩,
  ⟨some 42, none, false, .ext (.t 35) 1⟩,
  ⟨some 9, none, false, .mv (.t 41)⟩,
  ⟨some 10, none, false, .mv (.t 42)⟩]

def f_law09_TremorEither_r5 : List Abs.Op := [
  ⟨some 43, none, false, .ld true 12 (.t 3)⟩,
  ⟨some 44, none, false, .call false (.c (.fn i_law09_Net [] [])) [(.t 43)]⟩,
  ⟨some 45, none, false, .mv (.t 1)⟩,
  ⟨some 46, none, false, .call false (.c (.fn i_law09_Picks [] [])) [(.t 45)]⟩,
  ⟨some 47, none, false, .mv (.t 2)⟩,
  ⟨some 48, none, false, .call false (.c (.fn i_law09_Pairs [] [])) [(.t 47)]⟩,
  ⟨some 49, none, false, .call false (.c (.fn i_tremor_ProveNone [] [])) [(.t 44), (.t 46), (.t 48)]⟩,
  ⟨some 11, none, false, .mv (.t 49)⟩]

def f_law09_TremorEither_r6 : List Abs.Op := [
  ⟨some 50, none, false, .mv (.t 8)⟩,
  ⟨some 51, none, false, .bin .eql (.t 50) (.c (.int .i64 0))⟩]

def f_law09_TremorEither_r7 : List Abs.Op := [
  ⟨some 52, none, false, .mv (.t 7)⟩,
  ⟨some 53, none, false, .lenS (.t 52)⟩,
  ⟨some 54, none, false, .bin .gtr (.t 53) (.c (.int .i64 0))⟩,
  ⟨some 55, none, false, .mv (.t 54)⟩,
  ⟨some 56, some (55, true), false, .mv (.t 10)⟩,
  ⟨some 57, some (55, true), false, .bin .eql (.t 56) (.c (.int .i64 7))⟩,
  ⟨some 58, none, false, .pick (.t 55) (.t 57) (.c (.bool false))⟩,
  ⟨some 59, none, false, .mv (.t 58)⟩,
  ⟨some 60, some (59, true), false, .mv (.t 11)⟩,
  ⟨some 61, some (59, true), false, .un .not (.t 60)⟩,
  ⟨some 62, none, false, .pick (.t 59) (.t 61) (.c (.bool false))⟩,
  ⟨some 63, none, false, .mv (.t 62)⟩,
  ⟨some 64, some (63, true), false, .call false (.c (.fn i_law09_awake [] [])) []⟩,
  ⟨some 65, none, false, .pick (.t 63) (.t 64) (.c (.bool false))⟩,
  ⟨some 6, none, false, .mv (.t 65)⟩]

def f_law09_TremorEither_r8 : List Abs.Op := [
  ⟨some 66, none, false, .mv (.t 8)⟩,
  ⟨some 67, none, false, .bin .eql (.t 66) (.c (.int .i64 7))⟩,
  ⟨some 68, none, false, .mv (.t 67)⟩,
  ⟨some 69, some (68, true), false, .mv (.t 10)⟩,
  ⟨some 70, some (68, true), false, .bin .eql (.t 69) (.c (.int .i64 0))⟩,
  ⟨some 71, none, false, .pick (.t 68) (.t 70) (.c (.bool false))⟩,
  ⟨some 72, none, false, .mv (.t 71)⟩,
  ⟨some 73, some (72, true), false, .ld true 12 (.t 3)⟩,
  ⟨some 74, some (72, true), false, .call false (.c (.fn i_law09_Net [] [])) [(.t 73)]⟩,
  ⟨some 75, some (72, true), false, .mv (.t 1)⟩,
  ⟨some 76, some (72, true), false, .call false (.c (.fn i_law09_Picks [] [])) [(.t 75)]⟩,
  ⟨some 77, some (72, true), false, .mv (.t 9)⟩,
  ⟨some 78, some (72, true), false, .call false (.c (.fn i_tremor_ProveNone [] [])) [(.t 74), (.t 76), (.t 77)]⟩,
  ⟨some 79, none, false, .pick (.t 72) (.t 78) (.c (.bool false))⟩,
  ⟨some 80, none, false, .mv (.t 79)⟩,
  ⟨some 81, some (80, true), false, .call false (.c (.fn i_law09_awake [] [])) []⟩,
  ⟨some 82, none, false, .pick (.t 80) (.t 81) (.c (.bool false))⟩,
  ⟨some 6, none, false, .mv (.t 82)⟩]

def a_law09_TremorEither : Ann := ⟨[(8, [6]), (7, [6]), (6, [1, 3, 7, 8, 9, 10, 11, 51]), (5, [1, 3, 7, 8, 9, 10, 11]), (4, [1, 2, 3, 7, 8, 9, 10]), (3, [1, 2, 3, 7, 8]), (2, [6]), (1, [1, 2, 3, 25]), (0, [1, 2, 3])], [], [], [], [], [], [], []⟩
def f_law09_TremorEither : Abs.Fn := ⟨3, [.t 6],
  (.seq (.reg [1, 2, 3] f_law09_TremorEither_r0) (.seq (.seq (.reg [1, 2, 3, 25] f_law09_TremorEither_r1) (.ite (.t 25) (.seq (.reg [6] f_law09_TremorEither_r2) .ret) .nop)) (.seq (.reg [1, 2, 3, 7, 8] f_law09_TremorEither_r3) (.seq (.reg [1, 2, 3, 7, 8, 9, 10] f_law09_TremorEither_r4) (.seq (.reg [1, 3, 7, 8, 9, 10, 11] f_law09_TremorEither_r5) (.seq (.seq (.reg [1, 3, 7, 8, 9, 10, 11, 51] f_law09_TremorEither_r6) (.ite (.t 51) (.seq (.reg [6] f_law09_TremorEither_r7) .ret) .nop)) (.seq (.reg [6] f_law09_TremorEither_r8) .ret)))))))⟩

theorem e_law09_TremorEither_r0 : type_of% f_law09_TremorEither_r0.eq_1 := by_rfl f_law09_TremorEither_r0.eq_1
theorem e_law09_TremorEither_r1 : type_of% f_law09_TremorEither_r1.eq_1 := by_rfl f_law09_TremorEither_r1.eq_1
theorem e_law09_TremorEither_r2 : type_of% f_law09_TremorEither_r2.eq_1 := by_rfl f_law09_TremorEither_r2.eq_1
theorem e_law09_TremorEither_r3 : type_of% f_law09_TremorEither_r3.eq_1 := by_rfl f_law09_TremorEither_r3.eq_1
theorem e_law09_TremorEither_r4 : type_of% f_law09_TremorEither_r4.eq_1 := by_rfl f_law09_TremorEither_r4.eq_1
theorem e_law09_TremorEither_r5 : type_of% f_law09_TremorEither_r5.eq_1 := by_rfl f_law09_TremorEither_r5.eq_1
theorem e_law09_TremorEither_r6 : type_of% f_law09_TremorEither_r6.eq_1 := by_rfl f_law09_TremorEither_r6.eq_1
theorem e_law09_TremorEither_r7 : type_of% f_law09_TremorEither_r7.eq_1 := by_rfl f_law09_TremorEither_r7.eq_1
theorem e_law09_TremorEither_r8 : type_of% f_law09_TremorEither_r8.eq_1 := by_rfl f_law09_TremorEither_r8.eq_1
theorem e_law09_TremorEither : type_of% f_law09_TremorEither.eq_1 := by_rfl f_law09_TremorEither.eq_1
theorem ok_law09_TremorEither : fnC Try.prog a_law09_TremorEither Try.f12 = some f_law09_TremorEither := by kernel_rfl

/-! 13 fumarole/fumarolelaw09.TremorReasons -/
def f_law09_TremorReasons_r0 : List Abs.Op := [
  ⟨some 7, none, false, .boxi (.t 0)⟩,
  ⟨some 14, none, false, .mv (.c (.bool false))⟩]

def f_law09_TremorReasons_r1 : List Abs.Op := [
  ⟨some 25, none, false, .ld true 12 (.t 7)⟩,
  ⟨some 26, none, false, .mv (.t 1)⟩,
  ⟨some 27, none, false, .call false (.c (.fn i_law09_few [] [])) [(.t 25), (.t 26)]⟩,
  ⟨some 28, none, false, .un .not (.t 27)⟩,
  ⟨some 29, none, false, .mv (.t 28)⟩,
  ⟨some 30, some (29, false), false, .mv (.t 2)⟩,
  ⟨some 31, some (29, false), false, .lenS (.t 30)⟩,
  ⟨some 32, some (29, false), false, .bin .gtr (.t 31) (.c (.int .i64 100))⟩,
  ⟨some 33, none, false, .pick (.t 29) (.c (.bool true)) (.t 32)⟩]

def f_law09_TremorReasons_r2 : List Abs.Op := [
  ⟨some 34, none, false, .call false (.c (.fn i_law09_awake [] [])) []⟩,
  ⟨some 14, none, false, .mv (.t 34)⟩]

def f_law09_TremorReasons_r3 : List Abs.Op := [
  ⟨some 36, none, false, .ld true 12 (.t 7)⟩,
  ⟨some 37, none, false, .call false (.c (.fn i_law09_Net [] [])) [(.t 36)]⟩,
  ⟨some 38, none, false, .mv (.t 1)⟩,
  ⟨some 39, none, false, .call false (.c (.fn i_law09_Picks [] [])) [(.t 38)]⟩,
  ⟨some 40, none, false, .call false (.c (.fn i_tremor_Reasons [] [])) [(.t 37), (.t 39)]⟩,
  ⟨some 35, none, false, .mv (.t 40)⟩,
  ⟨some 41, none, false, .ext (.t 35) 0⟩,
  ⟨some 42, none, false, .ext (.t 35) 1⟩,
  ⟨some 15, none, false, .mv (.t 41)⟩,
  ⟨some 16, none, false, .mv (.t 42)⟩]

def f_law09_TremorReasons_r4 : List Abs.Op := [
  ⟨some 44, none, false, .ld true 12 (.t 7)⟩,
  ⟨some 45, none, false, .call false (.c (.fn i_law09_Net [] [])) [(.t 44)]⟩,
  ⟨some 46, none, false, .mv (.t 1)⟩,
  ⟨some 47, none, false, .call false (.c (.fn i_law09_Picks [] [])) [(.t 46)]⟩,
  ⟨some 48, none, false, .call false (.c (.fn i_tremor_Blame [] [])) [(.t 45), (.t 47)]⟩,
  ⟨some 43, none, false, .mv (.t 48)⟩,
  ⟨some 49, none, false, .ext (.t 43) 0⟩,
  ⟨some 50, none, false, .ext (.t 43) 1⟩,
  ⟨some 17, none, false, .mv (.t 49)⟩,
  ⟨some 18, none, false, .mv (.t 50)⟩]

def f_law09_TremorReasons_r5 : List Abs.Op := [
  ⟨some 51, none, false, .ld true 12 (.t 7)⟩,
  ⟨some 52, none, false, .mv (.t 1)⟩,
  ⟨some 53, none, false, .call false (.c (.fn i_law09_wrong [] [])) [(.t 51), (.t 52)]⟩,
  ⟨some 19, none, false, .mv (.t 53)⟩]

def f_law09_TremorReasons_r6 : List Abs.Op := [
  ⟨some 54, none, false, .mv (.t 19)⟩,
  ⟨some 55, none, false, .bin .neq (.t 54) (.c (.int .i64 0))⟩]

def f_law09_TremorReasons_r7 : List Abs.Op := [
  ⟨some 56, none, false, .mv (.t 16)⟩,
  ⟨some 57, none, false, .mv (.t 19)⟩,
  ⟨some 58, none, false, .bin .eql (.t 56) (.t 57)⟩,
  ⟨some 59, none, false, .mv (.t 58)⟩,
  ⟨some 60, some (59, true), false, .mv (.t 18)⟩,
  ⟨some 61, some (59, true), false, .mv (.t 19)⟩,
  ⟨some 62, some (59, true), false, .bin .eql (.t 60) (.t 61)⟩,
  ⟨some 63, none, false, .pick (.t 59) (.t 62) (.c (.bool false))⟩,
  ⟨some 64, none, false, .mv (.t 63)⟩,
  ⟨some 65, some (64, true), false, .mv (.t 15)⟩,
  ⟨some 66, some (64, true), false, .lenS (.t 65)⟩,
  ⟨some 67, some (64, true), false, .bin .eql (.t 66) (.c (.int .i64 0))⟩,
  ⟨some 68, none, false, .pick (.t 64) (.t 67) (.c (.bool false))⟩,
  ⟨some 69, none, false, .mv (.t 68)⟩,
  ⟨some 70, some (69, true), false, .mv (.t 17)⟩,
  ⟨some 71, some (69, true), false, .bin .eql (.t 70) (.c (.int .i64 0))⟩,
  ⟨some 72, none, false, .pick (.t 69) (.t 71) (.c (.bool false))⟩,
  ⟨some 73, none, false, .mv (.t 72)⟩,
  ⟨some 74, some (73, true), false, .ld true 12 (.t 7)⟩,
  ⟨some 75, some (73, true), false, .call false (.c (.fn i_law09_Net [] [])) [(.t 74)]⟩,
  ⟨some 76, some (73, true), false, .mv (.t 1)⟩,
  ⟨some 77, some (73, true), false, .call false (.c (.fn i_law09_Picks [] [])) [(.t 76)]⟩,
  ⟨some 78, some (73, true), false, .mv (.t 2)⟩,
  ⟨some 79, some (73, true), false, .call false (.c (.fn i_law09_Pairs [] [])) [(.t 78)]⟩,
  ⟨some 80, some (73, true), false, .call false (.c (.fn i_tremor_ProveNone [] [])) [(.t 75), (.t 77), (.t 79)]⟩,
  ⟨some 81, some (73, true), false, .un .not (.t 80)⟩,
  ⟨some 82, none, false, .pick (.t 73) (.t 81) (.c (.bool false))⟩,
  ⟨some 83, none, false, .mv (.t 82)⟩,
  ⟨some 84, some (83, true), false, .call false (.c (.fn i_law09_awake [] [])) []⟩,
  ⟨some 85, none, false, .pick (.t 83) (.t 84) (.c (.bool false))⟩,
  ⟨some 14, none, false, .mv (.t 85)⟩]

def f_law09_TremorReasons_r8 : List Abs.Op := [
  ⟨some 86, none, false, .ld true 12 (.t 7)⟩,
  ⟨some 87, none, false, .call false (.c (.fn i_ref09_Lattice [] [])) [(.t 86)]⟩,
  ⟨some 20, none, false, .mv (.t 87)⟩]

def f_law09_TremorReasons_r9 : List Abs.Op := [
  ⟨some 88, none, false, .ld true 12 (.t 7)⟩,
  ⟨some 89, none, false, .mv (.t 1)⟩,
  ⟨some 90, none, false, .call false (.c (.fn i_ref09_Locate [] [])) [(.t 88), (.t 89)]⟩,
  ⟨some 91, none, false, .lenS (.t 90)⟩,
  ⟨some 92, none, false, .bin .gtr (.t 91) (.c (.int .i64 0))⟩]

def f_law09_TremorReasons_r10 : List Abs.Op := [
  ⟨some 93, none, false, .mv (.t 16)⟩,
  ⟨some 94, none, false, .bin .neq (.t 93) (.c (.int .i64 7))⟩,
  ⟨some 95, none, false, .mv (.t 94)⟩,
  ⟨some 96, some (95, false), false, .mv (.t 18)⟩,
  ⟨some 97, some (95, false), false, .bin .neq (.t 96) (.c (.int .i64 7))⟩,
  ⟨some 98, none, false, .pick (.t 95) (.c (.bool true)) (.t 97)⟩,
  ⟨some 99, none, false, .mv (.t 98)⟩,
  ⟨some 100, some (99, false), false, .mv (.t 15)⟩,
  ⟨some 101, some (99, false), false, .lenS (.t 100)⟩,
  ⟨some 102, some (99, false), false, .bin .neq (.t 101) (.c (.int .i64 0))⟩,
  ⟨some 103, none, false, .pick (.t 99) (.c (.bool true)) (.t 102)⟩,
  ⟨some 104, none, false, .mv (.t 103)⟩,
  ⟨some 105, some (104, false), false, .mv (.t 17)⟩,
  ⟨some 106, some (104, false), false, .bin .neq (.t 105) (.c (.int .i64 0))⟩,
  ⟨some 107, none, false, .pick (.t 104) (.c (.bool true)) (.t 106)⟩]

def f_law09_TremorReasons_r11 : List Abs.Op := [
  ⟨some 14, none, false, .mv (.c (.bool false))⟩]

def f_law09_TremorReasons_r12 : List Abs.Op := [
  ⟨some 108, none, true, .mv (.t 16)⟩,
  ⟨some 109, none, true, .bin .neq (.t 108) (.c (.int .i64 0))⟩,
  ⟨some 110, none, true, .mv (.t 109)⟩,
  ⟨some 111, some (110, false), true, .mv (.t 18)⟩,
  ⟨some 112, some (110, false), true, .bin .neq (.t 111) (.c (.int .i64 0))⟩,
  ⟨some 113, none, true, .pick (.t 110) (.c (.bool true)) (.t 112)⟩,
  ⟨some 114, none, true, .mv (.t 113)⟩,
  ⟨some 115, some (114, false), true, .mv (.t 15)⟩,
  ⟨some 116, some (114, false), true, .lenS (.t 115)⟩,
  ⟨some 117, some (114, false), true, .mv (.t 20)⟩,
  ⟨some 118, some (114, false), true, .lenS (.t 117)⟩,
  ⟨some 119, some (114, false), true, .bin .neq (.t 116) (.t 118)⟩,
  ⟨some 120, none, true, .pick (.t 114) (.c (.bool true)) (.t 119)⟩,
  ⟨some 121, none, true, .mv (.t 120)⟩,
  ⟨some 122, some (121, false), true, .mv (.t 17)⟩,
  ⟨some 123, some (121, false), true, .mv (.t 1)⟩,
  ⟨some 124, some (121, false), true, .lenS (.t 123)⟩,
  ⟨some 125, some (121, false), true, .bin .sub (.t 124) (.c (.int .i64 1))⟩,
  ⟨some 126, some (121, false), true, .call false (.c (.fn i_ref09_In [] [])) [(.t 122), (.c (.int .i64 0)), (.t 125)]⟩,
  ⟨some 127, some (121, false), true, .un .not (.t 126)⟩,
  ⟨some 128, none, true, .pick (.t 121) (.c (.bool true)) (.t 127)⟩,
  ⟨some 129, none, true, .mv (.t 128)⟩,
  ⟨some 130, some (129, false), true, .ld true 12 (.t 7)⟩,
  ⟨some 131, some (129, false), true, .mv (.t 1)⟩,
  ⟨some 132, some (129, false), true, .mv (.t 17)⟩,
  ⟨some 133, some (129, false), true, .bin .add (.t 132) (.c (.int .i64 1))⟩,
  ⟨some 134, some (129, false), true, .slc 4 (.t 131) none (some (.t 133)) none⟩,
  ⟨some 135, some (129, false), true, .call false (.c (.fn i_ref09_Locate [] [])) [(.t 130), (.t 134)]⟩,
  ⟨some 136, some (129, false), true, .lenS (.t 135)⟩,
  ⟨some 137, some (129, false), true, .bin .neq (.t 136) (.c (.int .i64 0))⟩,
  ⟨some 138, none, true, .pick (.t 129) (.c (.bool true)) (.t 137)⟩,
  ⟨some 139, none, true, .mv (.t 138)⟩,
  ⟨some 140, some (139, false), true, .mv (.t 17)⟩,
  ⟨some 141, some (139, false), true, .bin .gtr (.t 140) (.c (.int .i64 0))⟩,
  ⟨some 142, some (139, false), true, .mv (.t 141)⟩,
  ⟨some 143, some (142, true), true, .ld true 12 (.t 7)⟩,
  ⟨some 144, some (142, true), true, .mv (.t 1)⟩,
  ⟨some 145, some (142, true), true, .mv (.t 17)⟩,
  ⟨some 146, some (142, true), true, .slc 4 (.t 144) none (some (.t 145)) none⟩,
  ⟨some 147, some (142, true), false, .call false (.c (.fn i_ref09_Locate [] [])) [(.t 143), (.t 146)]⟩,
  ⟨some 148, some (142, true), false, .lenS (.t 147)⟩,
  ⟨some 149, some (142, true), false, .bin .eql (.t 148) (.c (.int .i64 0))⟩,
  ⟨some 150, some (139, false), false, .pick (.t 142) (.t 149) (.c (.bool false))⟩,
  ⟨some 151, none, false, .pick (.t 139) (.c (.bool true)) (.t 150)⟩]

def f_law09_TremorReasons_r13 : List Abs.Op := [
  ⟨some 14, none, false, .mv (.c (.bool false))⟩]

def f_law09_TremorReasons_r14 : List Abs.Op := [
  ⟨some 21, none, false, .mv (.c (.int .i64 0))⟩]

def f_law09_TremorReasons_r15 : List Abs.Op := [
  ⟨some 152, none, false, .mv (.t 21)⟩,
  ⟨some 153, none, false, .mv (.t 15)⟩,
  ⟨some 154, none, false, .lenS (.t 153)⟩,
  ⟨some 155, none, false, .bin .lss (.t 152) (.t 154)⟩]

def f_law09_TremorReasons_r16 : List Abs.Op := [
  ⟨some 158, none, true, .ld true 12 (.t 7)⟩,
  ⟨some 159, none, true, .mv (.t 1)⟩,
  ⟨some 160, none, true, .mv (.t 20)⟩,
  ⟨some 161, none, true, .mv (.t 21)⟩,
  ⟨some 162, none, true, .idxS 3 (.t 160) (.t 161)⟩,
  ⟨some 163, none, true, .ld true 3 (.t 162)⟩,
  ⟨some 164, none, true, .mv (.t 15)⟩,
  ⟨some 165, none, true, .mv (.t 21)⟩,
  ⟨some 166, none, true, .idxS 2 (.t 164) (.t 165)⟩,
  ⟨some 167, none, true, .fadr 0 (.t 166)⟩,
  ⟨some 168, none, true, .ld false 1 (.t 167)⟩,
  ⟨some 169, none, true, .mv (.t 15)⟩,
  ⟨some 170, none, true, .mv (.t 21)⟩,
  ⟨some 171, none, true, .idxS 2 (.t 169) (.t 170)⟩,
  ⟨some 172, none, true, .fadr 1 (.t 171)⟩,
  ⟨some 173, none, true, .ld false 1 (.t 172)⟩,
  ⟨some 174, none, true, .bld [(.int .i64 0), (.int .i64 0)] [(0, 1, (.t 168)), (1, 1, (.t 173))]⟩,
  ⟨some 175, none, false, .call false (.c (.fn i_ref09_Reason [] [])) [(.t 158), (.t 159), (.t 163), (.t 174)]⟩,
  ⟨some 176, none, false, .un .not (.t 175)⟩]

def f_law09_TremorReasons_r17 : List Abs.Op := [
  ⟨some 14, none, false, .mv (.c (.bool false))⟩]

def f_law09_TremorReasons_r18 : List Abs.Op := [
  ⟨some 156, none, false, .mv (.t 21)⟩,
  ⟨some 157, none, false, .bin .add (.t 156) (.c (.int .i64 1))⟩,
  ⟨some 21, none, false, .mv (.t 157)⟩]

def f_law09_TremorReasons_l19 : Abs.Cmd :=
  (.seq (.seq (.reg [1, 2, 3, 4, 5, 6, 7, 15, 20, 21, 155] f_law09_TremorReasons_r15) (.ite (.t 155) .nop (.exit 0))) (.seq (.blk 1 (.seq (.reg [1, 2, 3, 4, 5, 6, 7, 15, 20, 21, 176] f_law09_TremorReasons_r16) (.ite (.t 176) (.seq (.reg [14] f_law09_TremorReasons_r17) .ret) .nop))) (.reg [1, 2, 3, 4, 5, 6, 7, 15, 20, 21] f_law09_TremorReasons_r18)))

def f_law09_TremorReasons_r20 : List Abs.Op := [
  ⟨some 177, none, false, .mv (.t 3)⟩]

def f_law09_TremorReasons_r21 : List Abs.Op := [
  ⟨some 2, none, false, .nilb 2⟩]

def f_law09_TremorReasons_r22 : List Abs.Op := [
  ⟨some 22, none, false, .mv (.c (.int .i64 0))⟩]

def f_law09_TremorReasons_r23 : List Abs.Op := [
  ⟨some 178, none, false, .mv (.t 22)⟩,
  ⟨some 179, none, false, .mv (.t 15)⟩,
  ⟨some 180, none, false, .lenS (.t 179)⟩,
  ⟨some 181, none, false, .bin .lss (.t 178) (.t 180)⟩]

def f_law09_TremorReasons_r24 : List Abs.Op := [
  ⟨some 184, none, true, .mv (.t 2)⟩,
  ⟨some 185, none, true, .mv (.t 15)⟩,
  ⟨some 186, none, true, .mv (.t 22)⟩,
  ⟨some 187, none, true, .idxS 2 (.t 185) (.t 186)⟩,
  ⟨some 188, none, true, .fadr 0 (.t 187)⟩,
  ⟨some 189, none, true, .ld false 1 (.t 188)⟩,
  ⟨some 190, none, true, .mv (.t 15)⟩,
  ⟨some 191, none, true, .mv (.t 22)⟩,
  ⟨some 192, none, true, .idxS 2 (.t 190) (.t 191)⟩,
  ⟨some 193, none, true, .fadr 1 (.t 192)⟩,
  ⟨some 194, none, true, .ld false 1 (.t 193)⟩,
  ⟨some 195, none, true, .bld [(.int .i64 0), (.int .i64 0)] [(0, 1, (.t 189)), (1, 1, (.t 194))]⟩,
  ⟨some 196, none, true, .bsi 1 2 [(.int .i64 0), (.int .i64 0)] [(0, 2, (.t 195))]⟩,
  ⟨some 197, none, false, .app 2 16 (.t 184) (.t 196)⟩,
  ⟨some 2, none, false, .mv (.t 197)⟩]

def f_law09_TremorReasons_r25 : List Abs.Op := [
  ⟨some 182, none, false, .mv (.t 22)⟩,
  ⟨some 183, none, false, .bin .add (.t 182) (.c (.int .i64 1))⟩,
  ⟨some 22, none, false, .mv (.t 183)⟩]

def f_law09_TremorReasons_l26 : Abs.Cmd :=
  (.seq (.seq (.reg [1, 2, 4, 5, 6, 7, 15, 20, 22, 181] f_law09_TremorReasons_r23) (.ite (.t 181) .nop (.exit 2))) (.seq (.blk 3 (.reg [1, 2, 4, 5, 6, 7, 15, 20, 22] f_law09_TremorReasons_r24)) (.reg [1, 2, 4, 5, 6, 7, 15, 20, 22] f_law09_TremorReasons_r25)))

def f_law09_TremorReasons_r27 : List Abs.Op := [
  ⟨some 198, none, false, .mv (.t 4)⟩,
  ⟨some 199, none, false, .bin .geq (.t 198) (.c (.int .i64 0))⟩,
  ⟨some 200, none, false, .mv (.t 199)⟩,
  ⟨some 201, some (200, true), false, .mv (.t 4)⟩,
  ⟨some 202, some (200, true), false, .mv (.t 2)⟩,
  ⟨some 203, some (200, true), false, .lenS (.t 202)⟩,
  ⟨some 204, some (200, true), false, .bin .lss (.t 201) (.t 203)⟩,
  ⟨some 205, none, false, .pick (.t 200) (.t 204) (.c (.bool false))⟩]

def f_law09_TremorReasons_r28 : List Abs.Op := [
  ⟨some 206, none, false, .mv (.t 2)⟩,
  ⟨some 207, none, false, .mv (.t 4)⟩,
  ⟨some 208, none, false, .mv (.t 5)⟩,
  ⟨some 209, none, false, .mv (.t 6)⟩,
  ⟨some 210, none, false, .bld [(.int .i64 0), (.int .i64 0)] [(0, 1, (.t 208)), (1, 1, (.t 209))]⟩,
  ⟨some 211, none, false, .idxS 2 (.t 206) (.t 207)⟩,
  ⟨none, none, false, .st [] 2 (.t 211) (.t 210)⟩]

def f_law09_TremorReasons_r29 : List Abs.Op := [
  ⟨some 212, none, false, .mv (.t 2)⟩,
  ⟨some 213, none, false, .lenS (.t 212)⟩,
  ⟨some 214, none, false, .mv (.t 20)⟩,
  ⟨some 215, none, false, .lenS (.t 214)⟩,
  ⟨some 216, none, false, .bin .eql (.t 213) (.t 215)⟩,
  ⟨some 23, none, false, .mv (.t 216)⟩]

def f_law09_TremorReasons_r30 : List Abs.Op := [
  ⟨some 24, none, false, .mv (.c (.int .i64 0))⟩]

def f_law09_TremorReasons_r31 : List Abs.Op := [
  ⟨some 217, none, false, .mv (.t 24)⟩,
  ⟨some 218, none, false, .mv (.t 20)⟩,
  ⟨some 219, none, false, .lenS (.t 218)⟩,
  ⟨some 220, none, false, .bin .lss (.t 217) (.t 219)⟩,
  ⟨some 221, none, false, .mv (.t 220)⟩,
  ⟨some 222, some (221, true), false, .mv (.t 23)⟩,
  ⟨some 223, none, false, .pick (.t 221) (.t 222) (.c (.bool false))⟩]

def f_law09_TremorReasons_r32 : List Abs.Op := [
  ⟨some 226, none, true, .ld true 12 (.t 7)⟩,
  ⟨some 227, none, true, .mv (.t 1)⟩,
  ⟨some 228, none, true, .mv (.t 20)⟩,
  ⟨some 229, none, true, .mv (.t 24)⟩,
  ⟨some 230, none, true, .idxS 3 (.t 228) (.t 229)⟩,
  ⟨some 231, none, true, .ld true 3 (.t 230)⟩,
  ⟨some 232, none, true, .mv (.t 2)⟩,
  ⟨some 233, none, true, .mv (.t 24)⟩,
  ⟨some 234, none, true, .idxS 2 (.t 232) (.t 233)⟩,
  ⟨some 235, none, true, .ld true 2 (.t 234)⟩,
  ⟨some 236, none, false, .call false (.c (.fn i_ref09_Reason [] [])) [(.t 226), (.t 227), (.t 231), (.t 235)]⟩,
  ⟨some 23, none, false, .mv (.t 236)⟩]

def f_law09_TremorReasons_r33 : List Abs.Op := [
  ⟨some 224, none, false, .mv (.t 24)⟩,
  ⟨some 225, none, false, .bin .add (.t 224) (.c (.int .i64 1))⟩,
  ⟨some 24, none, false, .mv (.t 225)⟩]

def f_law09_TremorReasons_l34 : Abs.Cmd :=
  (.seq (.seq (.reg [1, 2, 7, 20, 23, 24, 223] f_law09_TremorReasons_r31) (.ite (.t 223) .nop (.exit 4))) (.seq (.blk 5 (.reg [1, 2, 7, 20, 23, 24] f_law09_TremorReasons_r32)) (.reg [1, 2, 7, 20, 23, 24] f_law09_TremorReasons_r33)))

def f_law09_TremorReasons_r35 : List Abs.Op := [
  ⟨some 237, none, false, .ld true 12 (.t 7)⟩,
  ⟨some 238, none, false, .call false (.c (.fn i_law09_Net [] [])) [(.t 237)]⟩,
  ⟨some 239, none, false, .mv (.t 1)⟩,
  ⟨some 240, none, false, .call false (.c (.fn i_law09_Picks [] [])) [(.t 239)]⟩,
  ⟨some 241, none, false, .mv (.t 2)⟩,
  ⟨some 242, none, false, .call false (.c (.fn i_law09_Pairs [] [])) [(.t 241)]⟩,
  ⟨some 243, none, false, .call false (.c (.fn i_tremor_ProveNone [] [])) [(.t 238), (.t 240), (.t 242)]⟩,
  ⟨some 244, none, false, .mv (.t 23)⟩,
  ⟨some 245, none, false, .eqv false [none] false (.t 243) (.t 244)⟩,
  ⟨some 246, none, false, .mv (.t 245)⟩,
  ⟨some 247, some (246, true), false, .call false (.c (.fn i_law09_awake [] [])) []⟩,
  ⟨some 248, none, false, .pick (.t 246) (.t 247) (.c (.bool false))⟩,
  ⟨some 14, none, false, .mv (.t 248)⟩]

def a_law09_TremorReasons : Ann := ⟨[(32, [14]), (30, [1, 2, 7, 20, 23, 24]), (31, [1, 2, 7, 20, 23, 24]), (29, [1, 2, 7, 20, 23, 24, 223]), (28, [1, 2, 7, 20, 23, 24]), (27, [1, 2, 7, 20, 23]), (11, [14]), (10, [1, 2, 7, 20, 107]), (26, [1, 2, 7, 20]), (25, [1, 2, 4, 5, 6, 7, 20, 205]), (23, [1, 2, 4, 5, 6, 7, 15, 20, 22]), (24, [1, 2, 4, 5, 6, 7, 15, 20, 22]), (22, [1, 2, 4, 5, 6, 7, 15, 20, 22, 181]), (21, [1, 2, 4, 5, 6, 7, 15, 20, 22]), (20, [1, 2, 4, 5, 6, 7, 15, 20]), (19, [1, 2, 4, 5, 6, 7, 15, 20, 177]), (16, [1, 2, 3, 4, 5, 6, 7, 15, 20, 21]), (18, [14]), (17, [1, 2, 3, 4, 5, 6, 7, 15, 20, 21, 176]), (15, [1, 2, 3, 4, 5, 6, 7, 15, 20, 21, 155]), (14, [1, 2, 3, 4, 5, 6, 7, 15, 20, 21]), (13, [14]), (12, [1, 2, 3, 4, 5, 6, 7, 15, 20, 151]), (9, [1, 2, 3, 4, 5, 6, 7, 15, 16, 17, 18, 20, 92]), (8, [1, 2, 3, 4, 5, 6, 7, 15, 16, 17, 18, 20]), (7, [14]), (6, [1, 2, 3, 4, 5, 6, 7, 15, 16, 17, 18, 19, 55]), (5, [1, 2, 3, 4, 5, 6, 7, 15, 16, 17, 18, 19]), (4, [1, 2, 3, 4, 5, 6, 7, 15, 16, 17, 18]), (3, [1, 2, 3, 4, 5, 6, 7, 15, 16]), (2, [14]), (1, [1, 2, 3, 4, 5, 6, 7, 33]), (0, [1, 2, 3, 4, 5, 6, 7])], [(4, [1, 2, 7, 20, 23, 24]), (2, [1, 2, 4, 5, 6, 7, 15, 20, 22]), (0, [1, 2, 3, 4, 5, 6, 7, 15, 20, 21])], [], [2], [], [], [], []⟩
def f_law09_TremorReasons : Abs.Fn := ⟨7, [.t 14],
  (.seq (.reg [1, 2, 3, 4, 5, 6, 7] f_law09_TremorReasons_r0) (.seq (.seq (.reg [1, 2, 3, 4, 5, 6, 7, 33] f_law09_TremorReasons_r1) (.ite (.t 33) (.seq (.reg [14] f_law09_TremorReasons_r2) .ret) .nop)) (.seq (.reg [1, 2, 3, 4, 5, 6, 7, 15, 16] f_law09_TremorReasons_r3) (.seq (.reg [1, 2, 3, 4, 5, 6, 7, 15, 16, 17, 18] f_law09_TremorReasons_r4) (.seq (.reg [1, 2, 3, 4, 5, 6, 7, 15, 16, 17, 18, 19] f_law09_TremorReasons_r5) (.seq (.seq (.reg [1, 2, 3, 4, 5, 6, 7, 15, 16, 17, 18, 19, 55] f_law09_TremorReasons_r6) (.ite (.t 55) (.seq (.reg [14] f_law09_TremorReasons_r7) .ret) .nop)) (.seq (.reg [1, 2, 3, 4, 5, 6, 7, 15, 16, 17, 18, 20] f_law09_TremorReasons_r8) (.seq (.seq (.reg [1, 2, 3, 4, 5, 6, 7, 15, 16, 17, 18, 20, 92] f_law09_TremorReasons_r9) (.ite (.t 92) (.seq (.reg [1, 2, 7, 20, 107] f_law09_TremorReasons_r10) (.ite (.t 107) (.seq (.reg [14] f_law09_TremorReasons_r11) .ret) .nop)) (.seq (.seq (.reg [1, 2, 3, 4, 5, 6, 7, 15, 20, 151] f_law09_TremorReasons_r12) (.ite (.t 151) (.seq (.reg [14] f_law09_TremorReasons_r13) .ret) .nop)) (.seq (.seq (.reg [1, 2, 3, 4, 5, 6, 7, 15, 20, 21] f_law09_TremorReasons_r14) (.blk 0 (.loop [1, 2, 3, 4, 5, 6, 7, 15, 20, 21] false f_law09_TremorReasons_l19))) (.seq (.reg [1, 2, 4, 5, 6, 7, 15, 20, 177] f_law09_TremorReasons_r20) (.ite (.t 177) (.seq (.reg [1, 2, 4, 5, 6, 7, 15, 20] f_law09_TremorReasons_r21) (.seq (.seq (.reg [1, 2, 4, 5, 6, 7, 15, 20, 22] f_law09_TremorReasons_r22) (.blk 2 (.loop [1, 2, 4, 5, 6, 7, 15, 20, 22] false f_law09_TremorReasons_l26))) (.seq (.reg [1, 2, 4, 5, 6, 7, 20, 205] f_law09_TremorReasons_r27) (.ite (.t 205) (.reg [1, 2, 7, 20] f_law09_TremorReasons_r28) .nop)))) .nop)))))) (.seq (.reg [1, 2, 7, 20, 23] f_law09_TremorReasons_r29) (.seq (.seq (.reg [1, 2, 7, 20, 23, 24] f_law09_TremorReasons_r30) (.blk 4 (.loop [1, 2, 7, 20, 23, 24] false f_law09_TremorReasons_l34))) (.seq (.reg [14] f_law09_TremorReasons_r35) .ret)))))))))))⟩

theorem e_law09_TremorReasons_r0 : type_of% f_law09_TremorReasons_r0.eq_1 := by_rfl f_law09_TremorReasons_r0.eq_1
theorem e_law09_TremorReasons_r1 : type_of% f_law09_TremorReasons_r1.eq_1 := by_rfl f_law09_TremorReasons_r1.eq_1
theorem e_law09_TremorReasons_r2 : type_of% f_law09_TremorReasons_r2.eq_1 := by_rfl f_law09_TremorReasons_r2.eq_1
theorem e_law09_TremorReasons_r3 : type_of% f_law09_TremorReasons_r3.eq_1 := by_rfl f_law09_TremorReasons_r3.eq_1
theorem e_law09_TremorReasons_r4 : type_of% f_law09_TremorReasons_r4.eq_1 := by_rfl f_law09_TremorReasons_r4.eq_1
theorem e_law09_TremorReasons_r5 : type_of% f_law09_TremorReasons_r5.eq_1 := by_rfl f_law09_TremorReasons_r5.eq_1
theorem e_law09_TremorReasons_r6 : type_of% f_law09_TremorReasons_r6.eq_1 := by_rfl f_law09_TremorReasons_r6.eq_1
theorem e_law09_TremorReasons_r7 : type_of% f_law09_TremorReasons_r7.eq_1 := by_rfl f_law09_TremorReasons_r7.eq_1
theorem e_law09_TremorReasons_r8 : type_of% f_law09_TremorReasons_r8.eq_1 := by_rfl f_law09_TremorReasons_r8.eq_1
theorem e_law09_TremorReasons_r9 : type_of% f_law09_TremorReasons_r9.eq_1 := by_rfl f_law09_TremorReasons_r9.eq_1
theorem e_law09_TremorReasons_r10 : type_of% f_law09_TremorReasons_r10.eq_1 := by_rfl f_law09_TremorReasons_r10.eq_1
theorem e_law09_TremorReasons_r11 : type_of% f_law09_TremorReasons_r11.eq_1 := by_rfl f_law09_TremorReasons_r11.eq_1
theorem e_law09_TremorReasons_r12 : type_of% f_law09_TremorReasons_r12.eq_1 := by_rfl f_law09_TremorReasons_r12.eq_1
theorem e_law09_TremorReasons_r13 : type_of% f_law09_TremorReasons_r13.eq_1 := by_rfl f_law09_TremorReasons_r13.eq_1
theorem e_law09_TremorReasons_r14 : type_of% f_law09_TremorReasons_r14.eq_1 := by_rfl f_law09_TremorReasons_r14.eq_1
theorem e_law09_TremorReasons_r15 : type_of% f_law09_TremorReasons_r15.eq_1 := by_rfl f_law09_TremorReasons_r15.eq_1
theorem e_law09_TremorReasons_r16 : type_of% f_law09_TremorReasons_r16.eq_1 := by_rfl f_law09_TremorReasons_r16.eq_1
theorem e_law09_TremorReasons_r17 : type_of% f_law09_TremorReasons_r17.eq_1 := by_rfl f_law09_TremorReasons_r17.eq_1
theorem e_law09_TremorReasons_r18 : type_of% f_law09_TremorReasons_r18.eq_1 := by_rfl f_law09_TremorReasons_r18.eq_1
theorem e_law09_TremorReasons_l19 : type_of% f_law09_TremorReasons_l19.eq_1 := by_rfl f_law09_TremorReasons_l19.eq_1
theorem e_law09_TremorReasons_r20 : type_of% f_law09_TremorReasons_r20.eq_1 := by_rfl f_law09_TremorReasons_r20.eq_1
theorem e_law09_TremorReasons_r21 : type_of% f_law09_TremorReasons_r21.eq_1 := by_rfl f_law09_TremorReasons_r21.eq_1
theorem e_law09_TremorReasons_r22 : type_of% f_law09_TremorReasons_r22.eq_1 := by_rfl f_law09_TremorReasons_r22.eq_1
theorem e_law09_TremorReasons_r23 : type_of% f_law09_TremorReasons_r23.eq_1 := by_rfl f_law09_TremorReasons_r23.eq_1
theorem e_law09_TremorReasons_r24 : type_of% f_law09_TremorReasons_r24.eq_1 := by_rfl f_law09_TremorReasons_r24.eq_1
theorem e_law09_TremorReasons_r25 : type_of% f_law09_TremorReasons_r25.eq_1 := by_rfl f_law09_TremorReasons_r25.eq_1
theorem e_law09_TremorReasons_l26 : type_of% f_law09_TremorReasons_l26.eq_1 := by_rfl f_law09_TremorReasons_l26.eq_1
theorem e_law09_TremorReasons_r27 : type_of% f_law09_TremorReasons_r27.eq_1 := by_rfl f_law09_TremorReasons_r27.eq_1
theorem e_law09_TremorReasons_r28 : type_of% f_law09_TremorReasons_r28.eq_1 := by_rfl f_law09_TremorReasons_r28.eq_1
theorem e_law09_TremorReasons_r29 : type_of% f_law09_TremorReasons_r29.eq_1 := by_rfl f_law09_TremorReasons_r29.eq_1
theorem e_law09_TremorReasons_r30 : type_of% f_law09_TremorReasons_r30.eq_1 := by_rfl f_law09_TremorReasons_r30.eq_1
theorem e_law09_TremorReasons_r31 : type_of% f_law09_TremorReasons_r31.eq_1 := by_rfl f_law09_TremorReasons_r31.eq_1
theorem e_law09_TremorReasons_r32 : type_of% f_law09_TremorReasons_r32.eq_1 := by_rfl f_law09_TremorReasons_r32.eq_1
theorem e_law09_TremorReasons_r33 : type_of% f_law09_TremorReasons_r33.eq_1 := by_rfl f_law09_TremorReasons_r33.eq_1
theorem e_law09_TremorReasons_l34 : type_of% f_law09_TremorReasons_l34.eq_1 := by_rfl f_law09_TremorReasons_l34.eq_1
theorem e_law09_TremorReasons_r35 : type_of% f_law09_TremorReasons_r35.eq_1 := by_rfl f_law09_TremorReasons_r35.eq_1
theorem e_law09_TremorReasons : type_of% f_law09_TremorReasons.eq_1 := by_rfl f_law09_TremorReasons.eq_1
theorem ok_law09_TremorReasons : fnC Try.prog a_law09_TremorReasons Try.f13 = some f_law09_TremorReasons := by kernel_rfl

/-! 14 fumarole/fumarolelaw09.TremorNames -/
def f_law09_TremorNames_r0 : List Abs.Op := [
  ⟨some 0, none, false, .mv (.c (.bool false))⟩]

def f_law09_TremorNames_r1 : List Abs.Op := [
  ⟨some 29, none, false, .call true (.c (.fn i_law09_Heard [] [])) []⟩,
  ⟨some 30, none, false, .bld [(.int .i64 0), (.int .i64 0)] [(0, 1, (.c (.int .i64 9000))), (1, 1, (.c (.int .i64 9000)))]⟩,
  ⟨some 31, none, false, .bld [(.int .i64 0), (.int .u8 0), (.int .i64 0), (.int .i64 0)] [(1, 1, (.c (.int .u8 1))), (2, 2, (.t 30))]⟩,
  ⟨some 32, none, false, .bsi 1 4 [(.int .i64 0), (.int .u8 0), (.int .i64 0), (.int .i64 0)] [(0, 4, (.t 31))]⟩,
  ⟨some 33, none, false, .app 4 32 (.t 29) (.t 32)⟩,
  ⟨some 1, none, false, .mv (.t 33)⟩]

def f_law09_TremorNames_r2 : List Abs.Op := [
  ⟨some 35, none, false, .call false (.c (.fn i_law09_Two [] [])) []⟩,
  ⟨some 36, none, false, .mv (.t 1)⟩,
  ⟨some 37, none, false, .call false (.c (.fn i_tremor_Blame [] [])) [(.t 35), (.t 36)]⟩,
  ⟨some 34, none, false, .mv (.t 37)⟩,
  ⟨some 38, none, false, .ext (.t 34) 0⟩,
  ⟨some 39, none, false, .ext (.t 34) 1⟩,
  ⟨some 2, none, false, .mv (.t 38)⟩,
  ⟨some 3, none, false, .mv (.t 39)⟩]

def f_law09_TremorNames_r3 : List Abs.Op := [
  ⟨some 41, none, false, .call false (.c (.fn i_law09_Two [] [])) []⟩,
  ⟨some 42, none, false, .mv (.t 1)⟩,
  ⟨some 43, none, false, .call false (.c (.fn i_tremor_Reasons [] [])) [(.t 41), (.t 42)]⟩,
  ⟨some 40, none, false, .mv (.t 43)⟩,
  ⟨some 44, none, false, .ext (.t 40) 0⟩,
  ⟨some 45, none, false, .ext (.t 40) 1⟩,
  ⟨some 4, none, false, .mv (.t 44)⟩,
  ⟨some 5, none, false, .mv (.t 45)⟩]

def f_law09_TremorNames_r4 : List Abs.Op := [
  ⟨some 46, none, false, .bld [(.int .i64 0), (.int .i64 0), (.int .i64 0)] [(0, 1, (.c (.int .i64 1500)))]⟩,
  ⟨some 47, none, false, .bld [(.int .i64 0), (.int .i64 0), (.int .i64 0), (.int .i64 0), (.int .i64 0), (.int .i64 0), (.int .i64 0), (.int .i64 0), (.int .i64 0), (.int .u8 0)] [(3, 3, (.t 46)), (6, 1, (.c (.int .i64 20))), (7, 1, (.c (.int .i64 10))), (8, 1, (.c (.int .i64 1))), (9, 1, (.c (.int .u8 2)))]⟩,
  ⟨some 48, none, false, .bsi 1 10 [(.int .i64 0), (.int .i64 0), (.int .i64 0), (.int .i64 0), (.int .i64 0), (.int .i64 0), (.int .i64 0), (.int .i64 0), (.int .i64 0), (.int .u8 0)] [(0, 10, (.t 47))]⟩,
  ⟨some 6, none, false, .mv (.t 48)⟩]

def f_law09_TremorNames_r5 : List Abs.Op := [
  ⟨some 50, none, false, .mv (.t 6)⟩,
  ⟨some 51, none, false, .bld [(.int .i64 0), (.int .i64 0), (.int .i64 0)] [(0, 1, (.c (.int .i64 1000)))]⟩,
  ⟨some 52, none, false, .bld [(.int .i64 0), (.int .i64 0), (.int .i64 0), (.int .i64 0)] [(0, 3, (.t 51)), (3, 1, (.c (.int .i64 25)))]⟩,
  ⟨some 53, none, false, .bld [(.int .i64 0), (.int .i64 0), (.int .i64 0)] [(0, 1, (.c (.int .i64 2000)))]⟩,
  ⟨some 54, none, false, .bld [(.int .i64 0), (.int .i64 0), (.int .i64 0), (.int .i64 0)] [(0, 3, (.t 53)), (3, 1, (.c (.int .i64 25)))]⟩,
  ⟨some 55, none, false, .bsi 2 4 [(.int .i64 0), (.int .i64 0), (.int .i64 0), (.int .i64 0), (.int .i64 0), (.int .i64 0), (.int .i64 0), (.int .i64 0)] [(0, 4, (.t 52)), (4, 4, (.t 54))]⟩,
  ⟨some 56, none, false, .bld [(.int .i64 0), .nils] [(0, 1, (.c (.int .i64 5))), (1, 1, (.t 55))]⟩,
  ⟨some 57, none, false, .bsi 1 2 [(.int .i64 0), .nils] [(0, 2, (.t 56))]⟩,
  ⟨some 58, none, false, .call false (.c (.fn i_tremor_Light [] [])) [(.t 50), (.t 57), (.c (.int .i64 12))]⟩,
  ⟨some 49, none, false, .mv (.t 58)⟩,
  ⟨some 59, none, false, .ext (.t 49) 0⟩,
  ⟨some 60, none, false, .ext (.t 49) 1⟩,
  ⟨some 61, none, false, .ext (.t 49) 2⟩,
  ⟨some 7, none, false, .mv (.t 59)⟩,
  ⟨some 8, none, false, .mv (.t 60)⟩,
  ⟨some 9, none, false, .mv (.t 61)⟩]

def f_law09_TremorNames_r6 : List Abs.Op := [
  ⟨some 62, none, false, .mv (.t 3)⟩,
  ⟨some 63, none, false, .bin .neq (.t 62) (.c (.int .i64 0))⟩,
  ⟨some 64, none, false, .mv (.t 63)⟩,
  ⟨some 65, some (64, false), false, .mv (.t 2)⟩,
  ⟨some 66, some (64, false), false, .bin .neq (.t 65) (.c (.int .i64 2))⟩,
  ⟨some 67, none, false, .pick (.t 64) (.c (.bool true)) (.t 66)⟩,
  ⟨some 68, none, false, .mv (.t 67)⟩,
  ⟨some 69, some (68, false), false, .mv (.t 5)⟩,
  ⟨some 70, some (68, false), false, .bin .neq (.t 69) (.c (.int .i64 0))⟩,
  ⟨some 71, none, false, .pick (.t 68) (.c (.bool true)) (.t 70)⟩,
  ⟨some 72, none, false, .mv (.t 71)⟩,
  ⟨some 73, some (72, false), false, .mv (.t 4)⟩,
  ⟨some 74, some (72, false), false, .lenS (.t 73)⟩,
  ⟨some 75, some (72, false), false, .bin .neq (.t 74) (.c (.int .i64 4))⟩,
  ⟨some 76, none, false, .pick (.t 72) (.c (.bool true)) (.t 75)⟩,
  ⟨some 77, none, false, .mv (.t 76)⟩,
  ⟨some 78, some (77, false), false, .call false (.c (.fn i_law09_Two [] [])) []⟩,
  ⟨some 79, some (77, false), false, .mv (.t 1)⟩,
  ⟨some 80, some (77, false), false, .mv (.t 4)⟩,
  ⟨some 81, some (77, false), false, .call false (.c (.fn i_tremor_ProveNone [] [])) [(.t 78), (.t 79), (.t 80)]⟩,
  ⟨some 82, some (77, false), false, .un .not (.t 81)⟩,
  ⟨some 83, none, false, .pick (.t 77) (.c (.bool true)) (.t 82)⟩,
  ⟨some 84, none, false, .mv (.t 83)⟩,
  ⟨some 85, some (84, false), false, .call false (.c (.fn i_law09_Two [] [])) []⟩,
  ⟨some 86, some (84, false), false, .call false (.c (.fn i_law09_Heard [] [])) []⟩,
  ⟨some 87, some (84, false), false, .mv (.t 4)⟩,
  ⟨some 88, some (84, false), false, .call false (.c (.fn i_tremor_ProveNone [] [])) [(.t 85), (.t 86), (.t 87)]⟩,
  ⟨some 89, none, false, .pick (.t 84) (.c (.bool true)) (.t 88)⟩,
  ⟨some 90, none, false, .mv (.t 89)⟩,
  ⟨some 91, some (90, false), false, .mv (.t 9)⟩,
  ⟨some 92, some (90, false), false, .bin .neq (.t 91) (.c (.int .i64 0))⟩,
  ⟨some 93, none, false, .pick (.t 90) (.c (.bool true)) (.t 92)⟩,
  ⟨some 94, none, false, .mv (.t 93)⟩,
  ⟨some 95, some (94, false), false, .mv (.t 7)⟩,
  ⟨some 96, some (94, false), false, .bin .neq (.t 95) (.c (.int .u8 2))⟩,
  ⟨some 97, none, false, .pick (.t 94) (.c (.bool true)) (.t 96)⟩,
  ⟨some 98, none, false, .mv (.t 97)⟩,
  ⟨some 99, some (98, false), false, .mv (.t 8)⟩,
  ⟨some 100, some (98, false), false, .bin .neq (.t 99) (.c (.int .u8 0))⟩,
  ⟨some 101, none, false, .pick (.t 98) (.c (.bool true)) (.t 100)⟩]

def f_law09_TremorNames_r7 : List Abs.Op := [
  ⟨some 0, none, false, .mv (.c (.bool false))⟩]

def f_law09_TremorNames_r8 : List Abs.Op := [
  ⟨some 103, none, false, .call false (.c (.fn i_law09_Two [] [])) []⟩,
  ⟨some 104, none, false, .mv (.t 1)⟩,
  ⟨some 105, none, false, .call false (.c (.fn i_tremor_Locate [] [])) [(.t 103), (.t 104)]⟩,
  ⟨some 102, none, false, .mv (.t 105)⟩,
  ⟨some 106, none, false, .ext (.t 102) 0⟩,
  ⟨some 107, none, false, .ext (.t 102) 1⟩,
  ⟨some 10, none, false, .mv (.t 106)⟩,
  ⟨some 11, none, false, .mv (.t 107)⟩]

def f_law09_TremorNames_r9 : List Abs.Op := [
  ⟨some 109, none, false, .call false (.c (.fn i_law09_Two [] [])) []⟩,
  ⟨some 110, none, false, .call false (.c (.fn i_tremor_Locate [] [])) [(.t 109), (.c .nils)]⟩,
  ⟨some 108, none, false, .mv (.t 110)⟩,
  ⟨some 111, none, false, .ext (.t 108) 0⟩,
  ⟨some 112, none, false, .ext (.t 108) 1⟩,
  ⟨some 12, none, false, .mv (.t 111)⟩,
  ⟨some 13, none, false, .mv (.t 112)⟩]

def f_law09_TremorNames_r10 : List Abs.Op := [
  ⟨some 114, none, false, .call false (.c (.fn i_law09_Two [] [])) []⟩,
  ⟨some 115, none, false, .call false (.c (.fn i_law09_Heard [] [])) []⟩,
  ⟨some 116, none, false, .call false (.c (.fn i_tremor_Reasons [] [])) [(.t 114), (.t 115)]⟩,
  ⟨some 113, none, false, .mv (.t 116)⟩,
  ⟨some 117, none, false, .ext (.t 113) 0⟩,
  ⟨some 118, none, false, .ext (.t 113) 1⟩,
  ⟨some 14, none, false, .mv (.t 117)⟩,
  ⟨some 15, none, false, .mv (.t 118)⟩]

def f_law09_TremorNames_r11 : List Abs.Op := [
  ⟨some 120, none, false, .call false (.c (.fn i_law09_Two [] [])) []⟩,
  ⟨some 121, none, false, .bld [(.int .i64 0), (.int .i64 0), (.int .i64 0)] []⟩,
  ⟨some 122, none, false, .call false (.c (.fn i_tremor_Travel [] [])) [(.t 120), (.c (.int .i64 2)), (.c (.int .u8 0)), (.t 121)]⟩,
  ⟨some 119, none, false, .mv (.t 122)⟩,
  ⟨some 123, none, false, .ext (.t 119) 0⟩,
  ⟨some 124, none, false, .ext (.t 119) 1⟩,
  ⟨some 16, none, false, .alcv [] [(.int .i64 0), (.int .i64 0)]⟩,
  ⟨none, none, false, .stv 16 [] 2 16 (.t 123)⟩,
  ⟨some 17, none, false, .mv (.t 124)⟩]

def f_law09_TremorNames_r12 : List Abs.Op := [
  ⟨some 126, none, false, .call false (.c (.fn i_law09_Two [] [])) []⟩,
  ⟨some 127, none, false, .bld [(.int .i64 0), (.int .i64 0), (.int .i64 0)] [(0, 1, (.c (.int .i64 20001)))]⟩,
  ⟨some 128, none, false, .call false (.c (.fn i_tremor_Travel [] [])) [(.t 126), (.c (.int .i64 1)), (.c (.int .u8 0)), (.t 127)]⟩,
  ⟨some 125, none, false, .mv (.t 128)⟩,
  ⟨some 129, none, false, .ext (.t 125) 0⟩,
  ⟨some 130, none, false, .ext (.t 125) 1⟩,
  ⟨some 18, none, false, .alcv [] [(.int .i64 0), (.int .i64 0)]⟩,
  ⟨none, none, false, .stv 18 [] 2 18 (.t 129)⟩,
  ⟨some 19, none, false, .mv (.t 130)⟩]

def f_law09_TremorNames_r13 : List Abs.Op := [
  ⟨some 132, none, false, .bld [(.int .i64 0), (.int .i64 0), (.int .i64 0), (.int .i64 0), (.int .i64 0)] [(0, 1, (.c (.int .i64 1))), (1, 1, (.c (.int .i64 10))), (2, 1, (.c (.int .i64 1))), (3, 1, (.c (.int .i64 10))), (4, 1, (.c (.int .i64 20)))]⟩,
  ⟨some 133, none, false, .bsi 1 1 [(.bool false)] [(0, 1, (.c (.bool true)))]⟩,
  ⟨some 134, none, false, .call false (.c (.fn i_tremor_Won [] [])) [(.t 132), (.t 133)]⟩,
  ⟨some 131, none, false, .mv (.t 134)⟩,
  ⟨some 135, none, false, .ext (.t 131) 0⟩,
  ⟨some 136, none, false, .ext (.t 131) 1⟩,
  ⟨some 20, none, false, .mv (.t 135)⟩,
  ⟨some 21, none, false, .mv (.t 136)⟩]

def f_law09_TremorNames_r14 : List Abs.Op := [
  ⟨some 138, none, false, .bld [(.int .i64 0), (.int .i64 0), (.int .i64 0), (.int .i64 0), (.int .i64 0)] [(0, 1, (.c (.int .i64 1))), (1, 1, (.c (.int .i64 10))), (2, 1, (.c (.int .i64 1))), (3, 1, (.c (.int .i64 1))), (4, 1, (.c (.int .i64 10)))]⟩,
  ⟨some 139, none, false, .bsi 1 1 [(.bool false)] [(0, 1, (.c (.bool true)))]⟩,
  ⟨some 140, none, false, .call false (.c (.fn i_tremor_Won [] [])) [(.t 138), (.t 139)]⟩,
  ⟨some 137, none, false, .mv (.t 140)⟩,
  ⟨some 141, none, false, .ext (.t 137) 0⟩,
  ⟨some 142, none, false, .ext (.t 137) 1⟩,
  ⟨some 22, none, false, .mv (.t 141)⟩,
  ⟨some 23, none, false, .mv (.t 142)⟩]

def f_law09_TremorNames_r15 : List Abs.Op := [
  ⟨some 144, none, false, .call false (.c (.fn i_tremor_Light [] [])) [(.c .nils), (.c .nils), (.c (.int .i64 (-1)))]⟩,
  ⟨some 143, none, false, .mv (.t 144)⟩,
  ⟨some 145, none, false, .ext (.t 143) 0⟩,
  ⟨some 146, none, false, .ext (.t 143) 1⟩,
  ⟨some 147, none, false, .ext (.t 143) 2⟩,
  ⟨some 24, none, false, .mv (.t 145)⟩,
  ⟨some 25, none, false, .mv (.t 146)⟩,
  ⟨some 26, none, false, .mv (.t 147)⟩]

def f_law09_TremorNames_r16 : List Abs.Op := [
  ⟨some 149, none, false, .bsi 1 1 [(.int .i64 0)] [(0, 1, (.c (.int .i64 1)))]⟩,
  ⟨some 150, none, false, .bld [(.int .i64 0), (.int .i64 0), (.int .i64 0)] []⟩,
  ⟨some 151, none, false, .call false (.c (.fn i_tremor_Inject [] [])) [(.t 149), (.c .nils), (.t 150), (.c (.int .i64 0))]⟩,
  ⟨some 148, none, false, .mv (.t 151)⟩,
  ⟨some 152, none, false, .ext (.t 148) 0⟩,
  ⟨some 153, none, false, .ext (.t 148) 1⟩,
  ⟨some 27, none, false, .mv (.t 152)⟩,
  ⟨some 28, none, false, .mv (.t 153)⟩]

def f_law09_TremorNames_r17 : List Abs.Op := [
  ⟨some 154, none, false, .mv (.t 11)⟩,
  ⟨some 155, none, false, .bin .eql (.t 154) (.c (.int .i64 7))⟩,
  ⟨some 156, none, false, .mv (.t 155)⟩,
  ⟨some 157, some (156, true), false, .mv (.t 13)⟩,
  ⟨some 158, some (156, true), false, .bin .eql (.t 157) (.c (.int .i64 1))⟩,
  ⟨some 159, none, false, .pick (.t 156) (.t 158) (.c (.bool false))⟩,
  ⟨some 160, none, false, .mv (.t 159)⟩,
  ⟨some 161, some (160, true), false, .mv (.t 15)⟩,
  ⟨some 162, some (160, true), false, .bin .eql (.t 161) (.c (.int .i64 7))⟩,
  ⟨some 163, none, false, .pick (.t 160) (.t 162) (.c (.bool false))⟩,
  ⟨some 164, none, false, .mv (.t 163)⟩,
  ⟨some 165, some (164, true), false, .mv (.t 17)⟩,
  ⟨some 166, some (164, true), false, .bin .eql (.t 165) (.c (.int .i64 2))⟩,
  ⟨some 167, none, false, .pick (.t 164) (.t 166) (.c (.bool false))⟩,
  ⟨some 168, none, false, .mv (.t 167)⟩,
  ⟨some 169, some (168, true), false, .mv (.t 19)⟩,
  ⟨some 170, some (168, true), false, .bin .eql (.t 169) (.c (.int .i64 1))⟩,
  ⟨some 171, none, false, .pick (.t 168) (.t 170) (.c (.bool false))⟩,
  ⟨some 172, none, false, .mv (.t 171)⟩,
  ⟨some 173, some (172, true), false, .mv (.t 21)⟩,
  ⟨some 174, some (172, true), false, .bin .eql (.t 173) (.c (.int .i64 7))⟩,
  ⟨some 175, none, false, .pick (.t 172) (.t 174) (.c (.bool false))⟩,
  ⟨some 176, none, false, .mv (.t 175)⟩,
  ⟨some 177, some (176, true), false, .mv (.t 23)⟩,
  ⟨some 178, some (176, true), false, .bin .eql (.t 177) (.c (.int .i64 0))⟩,
  ⟨some 179, none, false, .pick (.t 176) (.t 178) (.c (.bool false))⟩,
  ⟨some 180, none, false, .mv (.t 179)⟩,
  ⟨some 181, some (180, true), false, .mv (.t 22)⟩,
  ⟨some 182, some (180, true), false, .bin .eql (.t 181) (.c (.int .i64 0))⟩,
  ⟨some 183, none, false, .pick (.t 180) (.t 182) (.c (.bool false))⟩,
  ⟨some 184, none, false, .mv (.t 183)⟩,
  ⟨some 185, some (184, true), false, .mv (.t 26)⟩,
  ⟨some 186, some (184, true), false, .bin .eql (.t 185) (.c (.int .i64 2))⟩,
  ⟨some 187, none, false, .pick (.t 184) (.t 186) (.c (.bool false))⟩,
  ⟨some 188, none, false, .mv (.t 187)⟩,
  ⟨some 189, some (188, true), false, .mv (.t 28)⟩,
  ⟨some 190, some (188, true), false, .bin .eql (.t 189) (.c (.int .i64 1))⟩,
  ⟨some 191, none, false, .pick (.t 188) (.t 190) (.c (.bool false))⟩,
  ⟨some 192, none, false, .mv (.t 191)⟩,
  ⟨some 193, some (192, true), false, .bld [.nils, (.int .i64 0), (.int .i64 0), (.int .i64 0), (.int .i64 0), (.int .i64 0), (.int .i64 0), (.int .i64 0), (.int .i64 0), (.int .i64 0), (.int .i64 0), (.int .i64 0)] []⟩,
  ⟨some 194, some (192, true), false, .call false (.c (.fn i_tremor_CheckNet [] [])) [(.t 193)]⟩,
  ⟨some 195, some (192, true), false, .bin .eql (.t 194) (.c (.int .i64 1))⟩,
  ⟨some 196, none, false, .pick (.t 192) (.t 195) (.c (.bool false))⟩,
  ⟨some 197, none, false, .mv (.t 196)⟩,
  ⟨some 198, some (197, true), false, .call false (.c (.fn i_law09_awake [] [])) []⟩,
  ⟨some 199, none, false, .pick (.t 197) (.t 198) (.c (.bool false))⟩,
  ⟨some 0, none, false, .mv (.t 199)⟩]

def a_law09_TremorNames : Ann := ⟨[(17, [0]), (16, [11, 13, 15, 17, 19, 21, 22, 23, 26, 28]), (15, [11, 13, 15, 17, 19, 21, 22, 23, 26]), (14, [11, 13, 15, 17, 19, 21, 22, 23]), (13, [11, 13, 15, 17, 19, 21]), (12, [11, 13, 15, 17, 19]), (11, [11, 13, 15, 17]), (10, [11, 13, 15]), (9, [11, 13]), (8, [11]), (7, [0]), (6, [1, 101]), (5, [1, 2, 3, 4, 5, 7, 8, 9]), (4, [1, 2, 3, 4, 5, 6]), (3, [1, 2, 3, 4, 5]), (2, [1, 2, 3]), (1, [1]), (0, [])], [], [], [16, 18], [16, 18], [], [1000], []⟩
def f_law09_TremorNames : Abs.Fn := ⟨0, [.t 0],
  (.seq (.reg [] f_law09_TremorNames_r0) (.seq (.reg [1] f_law09_TremorNames_r1) (.seq (.reg [1, 2, 3] f_law09_TremorNames_r2) (.seq (.reg [1, 2, 3, 4, 5] f_law09_TremorNames_r3) (.seq (.reg [1, 2, 3, 4, 5, 6] f_law09_TremorNames_r4) (.seq (.reg [1, 2, 3, 4, 5, 7, 8, 9] f_law09_TremorNames_r5) (.seq (.seq (.reg [1, 101] f_law09_TremorNames_r6) (.ite (.t 101) (.seq (.reg [0] f_law09_TremorNames_r7) .ret) .nop)) (.seq (.reg [11] f_law09_TremorNames_r8) (.seq (.reg [11, 13] f_law09_TremorNames_r9) (.seq (.reg [11, 13, 15] f_law09_TremorNames_r10) (.seq (.reg [11, 13, 15, 17] f_law09_TremorNames_r11) (.seq (.reg [11, 13, 15, 17, 19] f_law09_TremorNames_r12) (.seq (.reg [11, 13, 15, 17, 19, 21] f_law09_TremorNames_r13) (.seq (.reg [11, 13, 15, 17, 19, 21, 22, 23] f_law09_TremorNames_r14) (.seq (.reg [11, 13, 15, 17, 19, 21, 22, 23, 26] f_law09_TremorNames_r15) (.seq (.reg [11, 13, 15, 17, 19, 21, 22, 23, 26, 28] f_law09_TremorNames_r16) (.seq (.reg [0] f_law09_TremorNames_r17) .ret)))))))))))))))))⟩

theorem e_law09_TremorNames_r0 : type_of% f_law09_TremorNames_r0.eq_1 := by_rfl f_law09_TremorNames_r0.eq_1
theorem e_law09_TremorNames_r1 : type_of% f_law09_TremorNames_r1.eq_1 := by_rfl f_law09_TremorNames_r1.eq_1
theorem e_law09_TremorNames_r2 : type_of% f_law09_TremorNames_r2.eq_1 := by_rfl f_law09_TremorNames_r2.eq_1
theorem e_law09_TremorNames_r3 : type_of% f_law09_TremorNames_r3.eq_1 := by_rfl f_law09_TremorNames_r3.eq_1
theorem e_law09_TremorNames_r4 : type_of% f_law09_TremorNames_r4.eq_1 := by_rfl f_law09_TremorNames_r4.eq_1
theorem e_law09_TremorNames_r5 : type_of% f_law09_TremorNames_r5.eq_1 := by_rfl f_law09_TremorNames_r5.eq_1
theorem e_law09_TremorNames_r6 : type_of% f_law09_TremorNames_r6.eq_1 := by_rfl f_law09_TremorNames_r6.eq_1
theorem e_law09_TremorNames_r7 : type_of% f_law09_TremorNames_r7.eq_1 := by_rfl f_law09_TremorNames_r7.eq_1
theorem e_law09_TremorNames_r8 : type_of% f_law09_TremorNames_r8.eq_1 := by_rfl f_law09_TremorNames_r8.eq_1
theorem e_law09_TremorNames_r9 : type_of% f_law09_TremorNames_r9.eq_1 := by_rfl f_law09_TremorNames_r9.eq_1
theorem e_law09_TremorNames_r10 : type_of% f_law09_TremorNames_r10.eq_1 := by_rfl f_law09_TremorNames_r10.eq_1
theorem e_law09_TremorNames_r11 : type_of% f_law09_TremorNames_r11.eq_1 := by_rfl f_law09_TremorNames_r11.eq_1
theorem e_law09_TremorNames_r12 : type_of% f_law09_TremorNames_r12.eq_1 := by_rfl f_law09_TremorNames_r12.eq_1
theorem e_law09_TremorNames_r13 : type_of% f_law09_TremorNames_r13.eq_1 := by_rfl f_law09_TremorNames_r13.eq_1
theorem e_law09_TremorNames_r14 : type_of% f_law09_TremorNames_r14.eq_1 := by_rfl f_law09_TremorNames_r14.eq_1
theorem e_law09_TremorNames_r15 : type_of% f_law09_TremorNames_r15.eq_1 := by_rfl f_law09_TremorNames_r15.eq_1
theorem e_law09_TremorNames_r16 : type_of% f_law09_TremorNames_r16.eq_1 := by_rfl f_law09_TremorNames_r16.eq_1
theorem e_law09_TremorNames_r17 : type_of% f_law09_TremorNames_r17.eq_1 := by_rfl f_law09_TremorNames_r17.eq_1
theorem e_law09_TremorNames : type_of% f_law09_TremorNames.eq_1 := by_rfl f_law09_TremorNames.eq_1
theorem ok_law09_TremorNames : fnC Try.prog a_law09_TremorNames Try.f14 = some f_law09_TremorNames := by kernel_rfl

/-! 15 fumarole/fumarolelaw09.few -/
def f_law09_few_r0 : List Abs.Op := [
  ⟨some 2, none, false, .boxi (.t 0)⟩,
  ⟨some 4, none, false, .mv (.c (.bool false))⟩]

def f_law09_few_r1 : List Abs.Op := [
  ⟨some 5, none, false, .fadr 0 (.t 2)⟩,
  ⟨some 6, none, false, .ld false 1 (.t 5)⟩,
  ⟨some 7, none, false, .lenS (.t 6)⟩,
  ⟨some 8, none, false, .bin .leq (.t 7) (.c (.int .i64 14))⟩,
  ⟨some 9, none, false, .mv (.t 8)⟩,
  ⟨some 10, some (9, true), false, .mv (.t 1)⟩,
  ⟨some 11, some (9, true), false, .lenS (.t 10)⟩,
  ⟨some 12, some (9, true), false, .bin .leq (.t 11) (.c (.int .i64 20))⟩,
  ⟨some 13, some (9, true), false, .mv (.t 12)⟩,
  ⟨some 14, some (13, false), false, .mv (.t 1)⟩,
  ⟨some 15, some (13, false), false, .lenS (.t 14)⟩,
  ⟨some 16, some (13, false), false, .bin .gtr (.t 15) (.c (.int .i64 60))⟩,
  ⟨some 17, some (13, false), false, .mv (.t 16)⟩,
  ⟨some 18, some (17, true), false, .mv (.t 1)⟩,
  ⟨some 19, some (17, true), false, .lenS (.t 18)⟩,
  ⟨some 20, some (17, true), false, .bin .leq (.t 19) (.c (.int .i64 62))⟩,
  ⟨some 21, some (13, false), false, .pick (.t 17) (.t 20) (.c (.bool false))⟩,
  ⟨some 22, some (9, true), false, .pick (.t 13) (.c (.bool true)) (.t 21)⟩,
  ⟨some 23, none, false, .pick (.t 9) (.t 22) (.c (.bool false))⟩,
  ⟨some 4, none, false, .mv (.t 23)⟩]

def a_law09_few : Ann := ⟨[(1, [4]), (0, [1, 2])], [], [], [], [], [], [], []⟩
def f_law09_few : Abs.Fn := ⟨2, [.t 4],
  (.seq (.reg [1, 2] f_law09_few_r0) (.seq (.reg [4] f_law09_few_r1) .ret))⟩

theorem e_law09_few_r0 : type_of% f_law09_few_r0.eq_1 := by_rfl f_law09_few_r0.eq_1
theorem e_law09_few_r1 : type_of% f_law09_few_r1.eq_1 := by_rfl f_law09_few_r1.eq_1
theorem e_law09_few : type_of% f_law09_few.eq_1 := by_rfl f_law09_few.eq_1
theorem ok_law09_few : fnC Try.prog a_law09_few Try.f15 = some f_law09_few := by kernel_rfl

/-! 16 fumarole/fumarolelaw09.awake -/
def f_law09_awake_r0 : List Abs.Op := [
  ⟨some 0, none, false, .mv (.c (.bool false))⟩]

def f_law09_awake_r1 : List Abs.Op := [
  ⟨some 12, none, false, .call false (.c (.fn i_law09_Two [] [])) []⟩,
  ⟨some 13, none, false, .bld [(.int .i64 0), (.int .i64 0), (.int .i64 0)] [(0, 1, (.c (.int .i64 1000)))]⟩,
  ⟨some 14, none, false, .call false (.c (.fn i_tremor_Travel [] [])) [(.t 12), (.c (.int .i64 0)), (.c (.int .u8 0)), (.t 13)]⟩,
  ⟨some 11, none, false, .mv (.t 14)⟩,
  ⟨some 15, none, false, .ext (.t 11) 0⟩,
  ⟨some 16, none, false, .ext (.t 11) 1⟩,
  ⟨some 1, none, false, .alcv [] [(.int .i64 0), (.int .i64 0)]⟩,
  ⟨none, none, false, .stv 1 [] 2 1 (.t 15)⟩,
  ⟨some 2, none, false, .mv (.t 16)⟩]

def f_law09_awake_r2 : List Abs.Op := [
  ⟨some 18, none, false, .call false (.c (.fn i_law09_Two [] [])) []⟩,
  ⟨some 19, none, false, .call false (.c (.fn i_law09_Heard [] [])) []⟩,
  ⟨some 20, none, false, .call false (.c (.fn i_tremor_Locate [] [])) [(.t 18), (.t 19)]⟩,
  ⟨some 17, none, false, .mv (.t 20)⟩,
  ⟨some 21, none, false, .ext (.t 17) 0⟩,
  ⟨some 22, none, false, .ext (.t 17) 1⟩,
  ⟨some 3, none, false, .mv (.t 21)⟩,
  ⟨some 4, none, false, .mv (.t 22)⟩]

def f_law09_awake_r3 : List Abs.Op := [
  ⟨some 24, none, false, .call false (.c (.fn i_law09_Two [] [])) []⟩,
  ⟨some 25, none, false, .bsi 3 1 [(.int .i64 0), (.int .i64 0), (.int .i64 0)] [(0, 1, (.c (.int .i64 10))), (1, 1, (.c (.int .i64 100))), (2, 1, (.c (.int .i64 1000)))]⟩,
  ⟨some 26, none, false, .bld [(.int .i64 0), (.int .i64 0)] [(1, 1, (.c (.int .i64 5)))]⟩,
  ⟨some 27, none, false, .bld [(.int .i64 0), (.int .i64 0)] [(0, 1, (.c (.int .i64 900))), (1, 1, (.c (.int .i64 8)))]⟩,
  ⟨some 28, none, false, .bsi 2 2 [(.int .i64 0), (.int .i64 0), (.int .i64 0), (.int .i64 0)] [(0, 2, (.t 26)), (2, 2, (.t 27))]⟩,
  ⟨some 29, none, false, .bld [.nils, .nils] [(0, 1, (.t 25)), (1, 1, (.t 28))]⟩,
  ⟨some 30, none, false, .bld [(.int .i64 0), (.int .i64 0), (.int .i64 0)] [(0, 1, (.c (.int .i64 1000)))]⟩,
  ⟨some 31, none, false, .bld [(.int .i64 0), (.int .i64 0)] [(1, 1, (.c (.int .i64 500)))]⟩,
  ⟨some 32, none, false, .bsi 1 2 [(.int .i64 0), (.int .i64 0)] [(0, 2, (.t 31))]⟩,
  ⟨some 33, none, false, .call false (.c (.fn i_tremor_Magnitude [] [])) [(.t 24), (.t 29), (.t 30), (.t 32)]⟩,
  ⟨some 23, none, false, .mv (.t 33)⟩,
  ⟨some 34, none, false, .ext (.t 23) 0⟩,
  ⟨some 35, none, false, .ext (.t 23) 1⟩,
  ⟨some 5, none, false, .mv (.t 34)⟩,
  ⟨some 6, none, false, .mv (.t 35)⟩]

def f_law09_awake_r4 : List Abs.Op := [
  ⟨some 37, none, false, .bld [(.int .i64 0), (.int .i64 0), (.int .i64 0), (.int .i64 0), (.int .i64 0)] [(0, 1, (.c (.int .i64 1))), (1, 1, (.c (.int .i64 10))), (2, 1, (.c (.int .i64 1))), (3, 1, (.c (.int .i64 10))), (4, 1, (.c (.int .i64 20)))]⟩,
  ⟨some 38, none, false, .bsi 3 1 [(.bool false), (.bool false), (.bool false)] [(0, 1, (.c (.bool true))), (1, 1, (.c (.bool false))), (2, 1, (.c (.bool true)))]⟩,
  ⟨some 39, none, false, .call false (.c (.fn i_tremor_Capital [] [])) [(.t 37), (.t 38)]⟩,
  ⟨some 36, none, false, .mv (.t 39)⟩,
  ⟨some 40, none, false, .ext (.t 36) 0⟩,
  ⟨some 41, none, false, .ext (.t 36) 1⟩,
  ⟨some 7, none, false, .mv (.t 40)⟩,
  ⟨some 8, none, false, .mv (.t 41)⟩]

def f_law09_awake_r5 : List Abs.Op := [
  ⟨some 43, none, false, .bsi 4 1 [(.int .i64 0), (.int .i64 0), (.int .i64 0), (.int .i64 0)] [(0, 1, (.c (.int .i64 100))), (1, 1, (.c (.int .i64 100))), (2, 1, (.c (.int .i64 100))), (3, 1, (.c (.int .i64 100)))]⟩,
  ⟨some 44, none, false, .bsi 4 1 [(.int .u8 0), (.int .u8 0), (.int .u8 0), (.int .u8 0)] [(0, 1, (.c (.int .u8 0))), (1, 1, (.c (.int .u8 2))), (2, 1, (.c (.int .u8 0))), (3, 1, (.c (.int .u8 0)))]⟩,
  ⟨some 45, none, false, .bld [(.int .i64 0), (.int .i64 0), (.int .i64 0)] [(0, 1, (.c (.int .i64 1000))), (1, 1, (.c (.int .i64 500))), (2, 1, (.c (.int .i64 0)))]⟩,
  ⟨some 46, none, false, .call false (.c (.fn i_tremor_Inject [] [])) [(.t 43), (.t 44), (.t 45), (.c (.int .i64 30))]⟩,
  ⟨some 42, none, false, .mv (.t 46)⟩,
  ⟨some 47, none, false, .ext (.t 42) 0⟩,
  ⟨some 48, none, false, .ext (.t 42) 1⟩,
  ⟨some 9, none, false, .mv (.t 47)⟩,
  ⟨some 10, none, false, .mv (.t 48)⟩]

def f_law09_awake_r6 : List Abs.Op := [
  ⟨some 49, none, false, .mv (.t 2)⟩,
  ⟨some 50, none, false, .bin .eql (.t 49) (.c (.int .i64 0))⟩,
  ⟨some 51, none, false, .mv (.t 50)⟩,
  ⟨some 52, some (51, true), false, .ldv 1 true 2 1⟩,
  ⟨some 53, some (51, true), false, .bld [(.int .i64 0), (.int .i64 0)] [(0, 1, (.c (.int .i64 200))), (1, 1, (.c (.int .i64 221)))]⟩,
  ⟨some 54, some (51, true), false, .eqv true [some .i64, some .i64] false (.t 52) (.t 53)⟩,
  ⟨some 55, none, false, .pick (.t 51) (.t 54) (.c (.bool false))⟩,
  ⟨some 56, none, false, .mv (.t 55)⟩,
  ⟨some 57, some (56, true), false, .mv (.t 4)⟩,
  ⟨some 58, some (56, true), false, .bin .eql (.t 57) (.c (.int .i64 0))⟩,
  ⟨some 59, none, false, .pick (.t 56) (.t 58) (.c (.bool false))⟩,
  ⟨some 60, none, false, .mv (.t 59)⟩,
  ⟨some 61, some (60, true), false, .mv (.t 3)⟩,
  ⟨some 62, some (60, true), false, .bld [(.int .i64 0), (.int .i64 0), (.int .i64 0)] [(0, 1, (.c (.int .i64 1000)))]⟩,
  ⟨some 63, some (60, true), false, .bld [(.int .i64 0), (.int .i64 0)] [(0, 1, (.c (.int .i64 4969))), (1, 1, (.c (.int .i64 5010)))]⟩,
  ⟨some 64, some (60, true), false, .bld [(.int .i64 0), (.int .i64 0), (.int .i64 0), (.int .i64 0), (.int .i64 0)] [(0, 3, (.t 62)), (3, 2, (.t 63))]⟩,
  ⟨some 65, some (60, true), false, .bsi 1 5 [(.int .i64 0), (.int .i64 0), (.int .i64 0), (.int .i64 0), (.int .i64 0)] [(0, 5, (.t 64))]⟩,
  ⟨some 66, some (60, true), false, .call false (.c (.fn i_law09_located [] [])) [(.t 61), (.t 65)]⟩,
  ⟨some 67, none, false, .pick (.t 60) (.t 66) (.c (.bool false))⟩,
  ⟨some 68, none, false, .mv (.t 67)⟩,
  ⟨some 69, some (68, true), false, .mv (.t 6)⟩,
  ⟨some 70, some (68, true), false, .bin .eql (.t 69) (.c (.int .i64 0))⟩,
  ⟨some 71, none, false, .pick (.t 68) (.t 70) (.c (.bool false))⟩,
  ⟨some 72, none, false, .mv (.t 71)⟩,
  ⟨some 73, some (72, true), false, .mv (.t 5)⟩,
  ⟨some 74, some (72, true), false, .bin .eql (.t 73) (.c (.int .i64 10))⟩,
  ⟨some 75, none, false, .pick (.t 72) (.t 74) (.c (.bool false))⟩,
  ⟨some 76, none, false, .mv (.t 75)⟩,
  ⟨some 77, some (76, true), false, .mv (.t 8)⟩,
  ⟨some 78, some (76, true), false, .bin .eql (.t 77) (.c (.int .i64 0))⟩,
  ⟨some 79, none, false, .pick (.t 76) (.t 78) (.c (.bool false))⟩,
  ⟨some 80, none, false, .mv (.t 79)⟩,
  ⟨some 81, some (80, true), false, .mv (.t 7)⟩,
  ⟨some 82, some (80, true), false, .bsi 3 1 [(.int .i64 0), (.int .i64 0), (.int .i64 0)] [(0, 1, (.c (.int .i64 1900000))), (1, 1, (.c (.int .i64 1710000))), (2, 1, (.c (.int .i64 3249000)))]⟩,
  ⟨some 83, some (80, true), false, .call false (.c (.fn i_law09_ints [] [])) [(.t 81), (.t 82)]⟩,
  ⟨some 84, none, false, .pick (.t 80) (.t 83) (.c (.bool false))⟩,
  ⟨some 85, none, false, .mv (.t 84)⟩,
  ⟨some 86, some (85, true), false, .mv (.t 10)⟩,
  ⟨some 87, some (85, true), false, .bin .eql (.t 86) (.c (.int .i64 0))⟩,
  ⟨some 88, none, false, .pick (.t 85) (.t 87) (.c (.bool false))⟩,
  ⟨some 89, none, false, .mv (.t 88)⟩,
  ⟨some 90, some (89, true), false, .mv (.t 9)⟩,
  ⟨some 91, some (89, true), false, .bsi 4 1 [(.int .i64 0), (.int .i64 0), (.int .i64 0), (.int .i64 0)] [(0, 1, (.c (.int .i64 100))), (1, 1, (.c (.int .i64 0))), (2, 1, (.c (.int .i64 30))), (3, 1, (.c (.int .i64 60)))]⟩,
  ⟨some 92, some (89, true), false, .call false (.c (.fn i_law09_ints [] [])) [(.t 90), (.t 91)]⟩,
  ⟨some 93, none, false, .pick (.t 89) (.t 92) (.c (.bool false))⟩,
  ⟨some 0, none, false, .mv (.t 93)⟩]

def a_law09_awake : Ann := ⟨[(6, [0]), (5, [1, 2, 3, 4, 5, 6, 7, 8, 9, 10]), (4, [1, 2, 3, 4, 5, 6, 7, 8]), (3, [1, 2, 3, 4, 5, 6]), (2, [1, 2, 3, 4]), (1, [1, 2]), (0, [])], [], [], [1], [1], [], [], []⟩
def f_law09_awake : Abs.Fn := ⟨0, [.t 0],
  (.seq (.reg [] f_law09_awake_r0) (.seq (.reg [1, 2] f_law09_awake_r1) (.seq (.reg [1, 2, 3, 4] f_law09_awake_r2) (.seq (.reg [1, 2, 3, 4, 5, 6] f_law09_awake_r3) (.seq (.reg [1, 2, 3, 4, 5, 6, 7, 8] f_law09_awake_r4) (.seq (.reg [1, 2, 3, 4, 5, 6, 7, 8, 9, 10] f_law09_awake_r5) (.seq (.reg [0] f_law09_awake_r6) .ret)))))))⟩

theorem e_law09_awake_r0 : type_of% f_law09_awake_r0.eq_1 := by_rfl f_law09_awake_r0.eq_1
theorem e_law09_awake_r1 : type_of% f_law09_awake_r1.eq_1 := by_rfl f_law09_awake_r1.eq_1
theorem e_law09_awake_r2 : type_of% f_law09_awake_r2.eq_1 := by_rfl f_law09_awake_r2.eq_1
theorem e_law09_awake_r3 : type_of% f_law09_awake_r3.eq_1 := by_rfl f_law09_awake_r3.eq_1
theorem e_law09_awake_r4 : type_of% f_law09_awake_r4.eq_1 := by_rfl f_law09_awake_r4.eq_1
theorem e_law09_awake_r5 : type_of% f_law09_awake_r5.eq_1 := by_rfl f_law09_awake_r5.eq_1
theorem e_law09_awake_r6 : type_of% f_law09_awake_r6.eq_1 := by_rfl f_law09_awake_r6.eq_1
theorem e_law09_awake : type_of% f_law09_awake.eq_1 := by_rfl f_law09_awake.eq_1
theorem ok_law09_awake : fnC Try.prog a_law09_awake Try.f16 = some f_law09_awake := by kernel_rfl

/-! 17 fumarole/tremor.Locate -/
def f_tremor_Locate_r0 : List Abs.Op := [
  ⟨some 2, none, false, .boxi (.t 0)⟩,
  ⟨some 4, none, false, .mv (.c .nils)⟩,
  ⟨some 5, none, false, .mv (.c (.int .i64 0))⟩]

def f_tremor_Locate_r1 : List Abs.Op := [
  ⟨some 9, none, false, .ld true 12 (.t 2)⟩,
  ⟨some 10, none, false, .mv (.t 1)⟩,
  ⟨some 11, none, false, .bld [.nils, (.int .i64 0), (.int .i64 0), (.int .i64 0), (.int .i64 0), (.int .i64 0), (.int .i64 0), (.int .i64 0), (.int .i64 0), (.int .i64 0), (.int .i64 0), (.int .i64 0), .nils] [(0, 12, (.t 9)), (12, 1, (.t 10))]⟩,
  ⟨some 6, none, false, .alcv [] [.nils, (.int .i64 0), (.int .i64 0), (.int .i64 0), (.int .i64 0), (.int .i64 0), (.int .i64 0), (.int .i64 0), (.int .i64 0), (.int .i64 0), (.int .i64 0), (.int .i64 0), .nils]⟩,
  ⟨none, none, false, .stv 6 [] 13 6 (.t 11)⟩]

def f_tremor_Locate_r2 : List Abs.Op := [
  ⟨some 12, none, false, .ldv 6 true 13 6⟩,
  ⟨some 13, none, false, .call false (.c (.fn i_tremor_heard_check [] [])) [(.t 12)]⟩,
  ⟨some 7, none, false, .mv (.t 13)⟩]

def f_tremor_Locate_r3 : List Abs.Op := [
  ⟨some 14, none, false, .mv (.t 7)⟩,
  ⟨some 15, none, false, .bin .neq (.t 14) (.c (.int .i64 0))⟩]

def f_tremor_Locate_r4 : List Abs.Op := [
  ⟨some 16, none, false, .mv (.t 7)⟩,
  ⟨some 4, none, false, .mv (.c .nils)⟩,
  ⟨some 5, none, false, .mv (.t 16)⟩]

def f_tremor_Locate_r5 : List Abs.Op := [
  ⟨some 17, none, false, .ldv 6 true 13 6⟩,
  ⟨some 18, none, false, .mv (.t 1)⟩,
  ⟨some 19, none, false, .lenS (.t 18)⟩,
  ⟨some 20, none, false, .call false (.c (.fn i_tremor_heard_located [] [])) [(.t 17), (.t 19)]⟩,
  ⟨some 8, none, false, .mv (.t 20)⟩]

def f_tremor_Locate_r6 : List Abs.Op := [
  ⟨some 21, none, false, .mv (.t 8)⟩,
  ⟨some 22, none, false, .lenS (.t 21)⟩,
  ⟨some 23, none, false, .bin .eql (.t 22) (.c (.int .i64 0))⟩]

def f_tremor_Locate_r7 : List Abs.Op := [
  ⟨some 4, none, false, .mv (.c .nils)⟩,
  ⟨some 5, none, false, .mv (.c (.int .i64 7))⟩]

def f_tremor_Locate_r8 : List Abs.Op := [
  ⟨some 24, none, false, .mv (.t 8)⟩,
  ⟨some 4, none, false, .mv (.t 24)⟩,
  ⟨some 5, none, false, .mv (.c (.int .i64 0))⟩]

def a_tremor_Locate : Ann := ⟨[(8, [4, 5]), (7, [4, 5]), (6, [8, 23]), (5, [8]), (4, [4, 5]), (3, [1, 6, 7, 15]), (2, [1, 6, 7]), (1, [1, 6]), (0, [1, 2])], [], [], [6], [6], [], [], []⟩
def f_tremor_Locate : Abs.Fn := ⟨2, [.t 4, .t 5],
  (.seq (.reg [1, 2] f_tremor_Locate_r0) (.seq (.reg [1, 6] f_tremor_Locate_r1) (.seq (.seq (.reg [1, 6, 7] f_tremor_Locate_r2) (.seq (.reg [1, 6, 7, 15] f_tremor_Locate_r3) (.ite (.t 15) (.seq (.reg [4, 5] f_tremor_Locate_r4) .ret) .nop))) (.seq (.reg [8] f_tremor_Locate_r5) (.seq (.seq (.reg [8, 23] f_tremor_Locate_r6) (.ite (.t 23) (.seq (.reg [4, 5] f_tremor_Locate_r7) .ret) .nop)) (.seq (.reg [4, 5] f_tremor_Locate_r8) .ret))))))⟩

theorem e_tremor_Locate_r0 : type_of% f_tremor_Locate_r0.eq_1 := by_rfl f_tremor_Locate_r0.eq_1
theorem e_tremor_Locate_r1 : type_of% f_tremor_Locate_r1.eq_1 := by_rfl f_tremor_Locate_r1.eq_1
theorem e_tremor_Locate_r2 : type_of% f_tremor_Locate_r2.eq_1 := by_rfl f_tremor_Locate_r2.eq_1
theorem e_tremor_Locate_r3 : type_of% f_tremor_Locate_r3.eq_1 := by_rfl f_tremor_Locate_r3.eq_1
theorem e_tremor_Locate_r4 : type_of% f_tremor_Locate_r4.eq_1 := by_rfl f_tremor_Locate_r4.eq_1
theorem e_tremor_Locate_r5 : type_of% f_tremor_Locate_r5.eq_1 := by_rfl f_tremor_Locate_r5.eq_1
theorem e_tremor_Locate_r6 : type_of% f_tremor_Locate_r6.eq_1 := by_rfl f_tremor_Locate_r6.eq_1
theorem e_tremor_Locate_r7 : type_of% f_tremor_Locate_r7.eq_1 := by_rfl f_tremor_Locate_r7.eq_1
theorem e_tremor_Locate_r8 : type_of% f_tremor_Locate_r8.eq_1 := by_rfl f_tremor_Locate_r8.eq_1
theorem e_tremor_Locate : type_of% f_tremor_Locate.eq_1 := by_rfl f_tremor_Locate.eq_1
theorem ok_tremor_Locate : fnC Try.prog a_tremor_Locate Try.f17 = some f_tremor_Locate := by kernel_rfl

/-! 18 fumarole/fumarolelaw09.Net -/
def f_law09_Net_r0 : List Abs.Op := [
  ⟨some 1, none, false, .boxi (.t 0)⟩,
  ⟨some 2, none, false, .alcv [] [.nils, (.int .i64 0), (.int .i64 0), (.int .i64 0), (.int .i64 0), (.int .i64 0), (.int .i64 0), (.int .i64 0), (.int .i64 0), (.int .i64 0), (.int .i64 0), (.int .i64 0)]⟩]

def f_law09_Net_r1 : List Abs.Op := [
  ⟨some 5, none, true, .fadr 1 (.t 1)⟩,
  ⟨some 6, none, true, .idxA 2 2 (.t 5) (.c (.int .i64 0))⟩,
  ⟨some 7, none, true, .ld true 2 (.t 6)⟩,
  ⟨some 8, none, true, .call false (.c (.fn i_law09_Range [] [])) [(.t 7)]⟩,
  ⟨some 9, none, true, .fadr 1 (.t 1)⟩,
  ⟨some 10, none, true, .idxA 2 2 (.t 9) (.c (.int .i64 1))⟩,
  ⟨some 11, none, true, .ld true 2 (.t 10)⟩,
  ⟨some 12, none, true, .call false (.c (.fn i_law09_Range [] [])) [(.t 11)]⟩,
  ⟨some 13, none, true, .bld [(.int .i64 0), (.int .i64 0), (.int .i64 0), (.int .i64 0)] [(0, 2, (.t 8)), (2, 2, (.t 12))]⟩,
  ⟨some 14, none, true, .fadr 5 (.t 1)⟩,
  ⟨some 15, none, true, .ld true 3 (.t 14)⟩,
  ⟨some 16, none, true, .call false (.c (.fn i_law09_Point [] [])) [(.t 15)]⟩,
  ⟨some 17, none, true, .fadr 8 (.t 1)⟩,
  ⟨some 18, none, true, .ld true 3 (.t 17)⟩,
  ⟨some 19, none, true, .call false (.c (.fn i_law09_Point [] [])) [(.t 18)]⟩,
  ⟨some 20, none, true, .fadr 11 (.t 1)⟩,
  ⟨some 21, none, true, .ld false 1 (.t 20)⟩,
  ⟨some 22, none, true, .bld [.nils, (.int .i64 0), (.int .i64 0), (.int .i64 0), (.int .i64 0), (.int .i64 0), (.int .i64 0), (.int .i64 0), (.int .i64 0), (.int .i64 0), (.int .i64 0), (.int .i64 0)] [(1, 4, (.t 13)), (5, 3, (.t 16)), (8, 3, (.t 19)), (11, 1, (.t 21))]⟩,
  ⟨some 3, none, true, .alcv [] [.nils, (.int .i64 0), (.int .i64 0), (.int .i64 0), (.int .i64 0), (.int .i64 0), (.int .i64 0), (.int .i64 0), (.int .i64 0), (.int .i64 0), (.int .i64 0), (.int .i64 0)]⟩,
  ⟨none, none, false, .stv 3 [(0, 4)] 12 3 (.t 22)⟩]

def f_law09_Net_r2 : List Abs.Op := [
  ⟨some 4, none, false, .mv (.c (.int .i64 0))⟩]

def f_law09_Net_r3 : List Abs.Op := [
  ⟨some 23, none, false, .mv (.t 4)⟩,
  ⟨some 24, none, false, .fadr 0 (.t 1)⟩,
  ⟨some 25, none, false, .ld false 1 (.t 24)⟩,
  ⟨some 26, none, false, .lenS (.t 25)⟩,
  ⟨some 27, none, false, .bin .lss (.t 23) (.t 26)⟩]

def f_law09_Net_r4 : List Abs.Op := [
  ⟨some 30, none, true, .fadr 0 (.t 3)⟩,
  ⟨some 31, none, true, .ldv 3 false 1 30⟩,
  ⟨some 32, none, true, .fadr 0 (.t 1)⟩,
  ⟨some 33, none, true, .ld false 1 (.t 32)⟩,
  ⟨some 34, none, true, .mv (.t 4)⟩,
  ⟨some 35, none, true, .idxS 4 (.t 33) (.t 34)⟩,
  ⟨some 36, none, true, .fadr 0 (.t 35)⟩,
  ⟨some 37, none, true, .ld true 3 (.t 36)⟩,
  ⟨some 38, none, true, .call false (.c (.fn i_law09_Point [] [])) [(.t 37)]⟩,
  ⟨some 39, none, true, .fadr 0 (.t 1)⟩,
  ⟨some 40, none, true, .ld false 1 (.t 39)⟩,
  ⟨some 41, none, true, .mv (.t 4)⟩,
  ⟨some 42, none, true, .idxS 4 (.t 40) (.t 41)⟩,
  ⟨some 43, none, true, .fadr 3 (.t 42)⟩,
  ⟨some 44, none, true, .ld false 1 (.t 43)⟩,
  ⟨some 45, none, true, .bld [(.int .i64 0), (.int .i64 0), (.int .i64 0), (.int .i64 0)] [(0, 3, (.t 38)), (3, 1, (.t 44))]⟩,
  ⟨some 46, none, true, .bsi 1 4 [(.int .i64 0), (.int .i64 0), (.int .i64 0), (.int .i64 0)] [(0, 4, (.t 45))]⟩,
  ⟨some 47, none, false, .app 4 32 (.t 31) (.t 46)⟩,
  ⟨some 48, none, false, .fadr 0 (.t 3)⟩,
  ⟨none, none, false, .stv 3 [(0, 4)] 1 48 (.t 47)⟩]

def f_law09_Net_r5 : List Abs.Op := [
  ⟨some 28, none, false, .mv (.t 4)⟩,
  ⟨some 29, none, false, .bin .add (.t 28) (.c (.int .i64 1))⟩,
  ⟨some 4, none, false, .mv (.t 29)⟩]

def f_law09_Net_l6 : Abs.Cmd :=
  (.seq (.seq (.reg [1, 2, 3, 4, 27] f_law09_Net_r3) (.ite (.t 27) .nop (.exit 0))) (.seq (.blk 1 (.reg [1, 2, 3, 4] f_law09_Net_r4)) (.reg [1, 2, 3, 4] f_law09_Net_r5)))

def f_law09_Net_r7 : List Abs.Op := [
  ⟨some 49, none, false, .ldv 3 true 12 3⟩,
  ⟨none, none, false, .stv 2 [] 12 2 (.t 49)⟩]

def a_law09_Net : Ann := ⟨[(6, [2]), (4, [1, 2, 3, 4]), (5, [1, 2, 3, 4]), (3, [1, 2, 3, 4, 27]), (2, [1, 2, 3, 4]), (1, [1, 2, 3]), (0, [1, 2])], [(0, [1, 2, 3, 4])], [], [2, 3], [2, 3], [(1019, [(0, 4)]), (5019, [(0, 4)])], [], []⟩
def f_law09_Net : Abs.Fn := ⟨1, [.v 2 true 12],
  (.seq (.reg [1, 2] f_law09_Net_r0) (.seq (.reg [1, 2, 3] f_law09_Net_r1) (.seq (.seq (.reg [1, 2, 3, 4] f_law09_Net_r2) (.blk 0 (.loop [1, 2, 3, 4] false f_law09_Net_l6))) (.seq (.reg [2] f_law09_Net_r7) .ret))))⟩

theorem e_law09_Net_r0 : type_of% f_law09_Net_r0.eq_1 := by_rfl f_law09_Net_r0.eq_1
theorem e_law09_Net_r1 : type_of% f_law09_Net_r1.eq_1 := by_rfl f_law09_Net_r1.eq_1
theorem e_law09_Net_r2 : type_of% f_law09_Net_r2.eq_1 := by_rfl f_law09_Net_r2.eq_1
theorem e_law09_Net_r3 : type_of% f_law09_Net_r3.eq_1 := by_rfl f_law09_Net_r3.eq_1
theorem e_law09_Net_r4 : type_of% f_law09_Net_r4.eq_1 := by_rfl f_law09_Net_r4.eq_1
theorem e_law09_Net_r5 : type_of% f_law09_Net_r5.eq_1 := by_rfl f_law09_Net_r5.eq_1
theorem e_law09_Net_l6 : type_of% f_law09_Net_l6.eq_1 := by_rfl f_law09_Net_l6.eq_1
theorem e_law09_Net_r7 : type_of% f_law09_Net_r7.eq_1 := by_rfl f_law09_Net_r7.eq_1
theorem e_law09_Net : type_of% f_law09_Net.eq_1 := by_rfl f_law09_Net.eq_1
theorem ok_law09_Net : fnC Try.prog a_law09_Net Try.f18 = some f_law09_Net := by kernel_rfl

/-! 19 fumarole/fumarolelaw09.Picks -/
def f_law09_Picks_r0 : List Abs.Op := [
  ⟨some 2, none, false, .mv (.c .nils)⟩]

def f_law09_Picks_r1 : List Abs.Op := [
  ⟨some 3, none, false, .nilb 4⟩]

def f_law09_Picks_r2 : List Abs.Op := [
  ⟨some 4, none, false, .mv (.c (.int .i64 0))⟩]

def f_law09_Picks_r3 : List Abs.Op := [
  ⟨some 5, none, false, .mv (.t 4)⟩,
  ⟨some 6, none, false, .mv (.t 0)⟩,
  ⟨some 7, none, false, .lenS (.t 6)⟩,
  ⟨some 8, none, false, .bin .lss (.t 5) (.t 7)⟩]

def f_law09_Picks_r4 : List Abs.Op := [
  ⟨some 11, none, true, .mv (.t 3)⟩,
  ⟨some 12, none, true, .mv (.t 0)⟩,
  ⟨some 13, none, true, .mv (.t 4)⟩,
  ⟨some 14, none, true, .idxS 4 (.t 12) (.t 13)⟩,
  ⟨some 15, none, true, .fadr 0 (.t 14)⟩,
  ⟨some 16, none, true, .ld false 1 (.t 15)⟩,
  ⟨some 17, none, true, .mv (.t 0)⟩,
  ⟨some 18, none, true, .mv (.t 4)⟩,
  ⟨some 19, none, true, .idxS 4 (.t 17) (.t 18)⟩,
  ⟨some 20, none, true, .fadr 1 (.t 19)⟩,
  ⟨some 21, none, true, .ld false 1 (.t 20)⟩,
  ⟨some 22, none, true, .mv (.t 0)⟩,
  ⟨some 23, none, true, .mv (.t 4)⟩,
  ⟨some 24, none, true, .idxS 4 (.t 22) (.t 23)⟩,
  ⟨some 25, none, true, .fadr 2 (.t 24)⟩,
  ⟨some 26, none, true, .ld true 2 (.t 25)⟩,
  ⟨some 27, none, true, .call false (.c (.fn i_law09_Range [] [])) [(.t 26)]⟩,
  ⟨some 28, none, true, .bld [(.int .i64 0), (.int .u8 0), (.int .i64 0), (.int .i64 0)] [(0, 1, (.t 16)), (1, 1, (.t 21)), (2, 2, (.t 27))]⟩,
  ⟨some 29, none, true, .bsi 1 4 [(.int .i64 0), (.int .u8 0), (.int .i64 0), (.int .i64 0)] [(0, 4, (.t 28))]⟩,
  ⟨some 30, none, false, .app 4 32 (.t 11) (.t 29)⟩,
  ⟨some 3, none, false, .mv (.t 30)⟩]

def f_law09_Picks_r5 : List Abs.Op := [
  ⟨some 9, none, false, .mv (.t 4)⟩,
  ⟨some 10, none, false, .bin .add (.t 9) (.c (.int .i64 1))⟩,
  ⟨some 4, none, false, .mv (.t 10)⟩]

def f_law09_Picks_l6 : Abs.Cmd :=
  (.seq (.seq (.reg [0, 3, 4, 8] f_law09_Picks_r3) (.ite (.t 8) .nop (.exit 0))) (.seq (.blk 1 (.reg [0, 3, 4] f_law09_Picks_r4)) (.reg [0, 3, 4] f_law09_Picks_r5)))

def f_law09_Picks_r7 : List Abs.Op := [
  ⟨some 31, none, false, .mv (.t 3)⟩,
  ⟨some 2, none, false, .mv (.t 31)⟩]

def a_law09_Picks : Ann := ⟨[(6, [2]), (4, [0, 3, 4]), (5, [0, 3, 4]), (3, [0, 3, 4, 8]), (2, [0, 3, 4]), (1, [0, 3]), (0, [0])], [(0, [0, 3, 4])], [], [3], [], [], [], []⟩
def f_law09_Picks : Abs.Fn := ⟨1, [.t 2],
  (.seq (.reg [0] f_law09_Picks_r0) (.seq (.reg [0, 3] f_law09_Picks_r1) (.seq (.seq (.reg [0, 3, 4] f_law09_Picks_r2) (.blk 0 (.loop [0, 3, 4] false f_law09_Picks_l6))) (.seq (.reg [2] f_law09_Picks_r7) .ret))))⟩

theorem e_law09_Picks_r0 : type_of% f_law09_Picks_r0.eq_1 := by_rfl f_law09_Picks_r0.eq_1
theorem e_law09_Picks_r1 : type_of% f_law09_Picks_r1.eq_1 := by_rfl f_law09_Picks_r1.eq_1
theorem e_law09_Picks_r2 : type_of% f_law09_Picks_r2.eq_1 := by_rfl f_law09_Picks_r2.eq_1
theorem e_law09_Picks_r3 : type_of% f_law09_Picks_r3.eq_1 := by_rfl f_law09_Picks_r3.eq_1
theorem e_law09_Picks_r4 : type_of% f_law09_Picks_r4.eq_1 := by_rfl f_law09_Picks_r4.eq_1
theorem e_law09_Picks_r5 : type_of% f_law09_Picks_r5.eq_1 := by_rfl f_law09_Picks_r5.eq_1
theorem e_law09_Picks_l6 : type_of% f_law09_Picks_l6.eq_1 := by_rfl f_law09_Picks_l6.eq_1
theorem e_law09_Picks_r7 : type_of% f_law09_Picks_r7.eq_1 := by_rfl f_law09_Picks_r7.eq_1
theorem e_law09_Picks : type_of% f_law09_Picks.eq_1 := by_rfl f_law09_Picks.eq_1
theorem ok_law09_Picks : fnC Try.prog a_law09_Picks Try.f19 = some f_law09_Picks := by kernel_rfl

/-! 20 fumarole/fumarolelaw09.wrong -/
def f_law09_wrong_r0 : List Abs.Op := [
  ⟨some 2, none, false, .boxi (.t 0)⟩,
  ⟨some 4, none, false, .mv (.c (.int .i64 0))⟩]

def f_law09_wrong_r1 : List Abs.Op := [
  ⟨some 5, none, false, .ld true 12 (.t 2)⟩,
  ⟨some 6, none, false, .call false (.c (.fn i_ref09_Right [] [])) [(.t 5)]⟩,
  ⟨some 7, none, false, .un .not (.t 6)⟩]

def f_law09_wrong_r2 : List Abs.Op := [
  ⟨some 4, none, false, .mv (.c (.int .i64 1))⟩]

def f_law09_wrong_r3 : List Abs.Op := [
  ⟨some 8, none, false, .mv (.t 1)⟩,
  ⟨some 9, none, false, .lenS (.t 8)⟩,
  ⟨some 10, none, false, .bin .gtr (.t 9) (.c (.int .i64 60))⟩]

def f_law09_wrong_r4 : List Abs.Op := [
  ⟨some 4, none, false, .mv (.c (.int .i64 3))⟩]

def f_law09_wrong_r5 : List Abs.Op := [
  ⟨some 11, none, false, .ld true 12 (.t 2)⟩,
  ⟨some 12, none, false, .mv (.t 1)⟩,
  ⟨some 13, none, false, .call false (.c (.fn i_ref09_Picks [] [])) [(.t 11), (.t 12)]⟩,
  ⟨some 14, none, false, .un .not (.t 13)⟩]

def f_law09_wrong_r6 : List Abs.Op := [
  ⟨some 4, none, false, .mv (.c (.int .i64 1))⟩]

def f_law09_wrong_r7 : List Abs.Op := [
  ⟨some 4, none, false, .mv (.c (.int .i64 0))⟩]

def a_law09_wrong : Ann := ⟨[(7, [4]), (6, [4]), (5, [14]), (4, [4]), (3, [1, 2, 10]), (2, [4]), (1, [1, 2, 7]), (0, [1, 2])], [], [], [], [], [], [], []⟩
def f_law09_wrong : Abs.Fn := ⟨2, [.t 4],
  (.seq (.reg [1, 2] f_law09_wrong_r0) (.seq (.seq (.reg [1, 2, 7] f_law09_wrong_r1) (.ite (.t 7) (.seq (.reg [4] f_law09_wrong_r2) .ret) .nop)) (.seq (.seq (.reg [1, 2, 10] f_law09_wrong_r3) (.ite (.t 10) (.seq (.reg [4] f_law09_wrong_r4) .ret) .nop)) (.seq (.seq (.reg [14] f_law09_wrong_r5) (.ite (.t 14) (.seq (.reg [4] f_law09_wrong_r6) .ret) .nop)) (.seq (.reg [4] f_law09_wrong_r7) .ret)))))⟩

theorem e_law09_wrong_r0 : type_of% f_law09_wrong_r0.eq_1 := by_rfl f_law09_wrong_r0.eq_1
theorem e_law09_wrong_r1 : type_of% f_law09_wrong_r1.eq_1 := by_rfl f_law09_wrong_r1.eq_1
theorem e_law09_wrong_r2 : type_of% f_law09_wrong_r2.eq_1 := by_rfl f_law09_wrong_r2.eq_1
theorem e_law09_wrong_r3 : type_of% f_law09_wrong_r3.eq_1 := by_rfl f_law09_wrong_r3.eq_1
theorem e_law09_wrong_r4 : type_of% f_law09_wrong_r4.eq_1 := by_rfl f_law09_wrong_r4.eq_1
theorem e_law09_wrong_r5 : type_of% f_law09_wrong_r5.eq_1 := by_rfl f_law09_wrong_r5.eq_1
theorem e_law09_wrong_r6 : type_of% f_law09_wrong_r6.eq_1 := by_rfl f_law09_wrong_r6.eq_1
theorem e_law09_wrong_r7 : type_of% f_law09_wrong_r7.eq_1 := by_rfl f_law09_wrong_r7.eq_1
theorem e_law09_wrong : type_of% f_law09_wrong.eq_1 := by_rfl f_law09_wrong.eq_1
theorem ok_law09_wrong : fnC Try.prog a_law09_wrong Try.f20 = some f_law09_wrong := by kernel_rfl

/-! 21 fumarole/fumaroleref09.Locate -/
def f_ref09_Locate_r0 : List Abs.Op := [
  ⟨some 2, none, false, .boxi (.t 0)⟩,
  ⟨some 4, none, false, .mv (.c .nils)⟩]

def f_ref09_Locate_r1 : List Abs.Op := [
  ⟨some 5, none, false, .nilb 5⟩]

def f_ref09_Locate_r2 : List Abs.Op := [
  ⟨some 10, none, false, .ld true 12 (.t 2)⟩,
  ⟨some 11, none, false, .call false (.c (.fn i_ref09_Lattice [] [])) [(.t 10)]⟩,
  ⟨some 6, none, false, .mv (.t 11)⟩]

def f_ref09_Locate_r3 : List Abs.Op := [
  ⟨some 7, none, false, .mv (.c (.int .i64 0))⟩]

def f_ref09_Locate_r4 : List Abs.Op := [
  ⟨some 12, none, false, .mv (.t 7)⟩,
  ⟨some 13, none, false, .mv (.t 6)⟩,
  ⟨some 14, none, false, .lenS (.t 13)⟩,
  ⟨some 15, none, false, .bin .lss (.t 12) (.t 14)⟩]

def f_ref09_Locate_r5 : List Abs.Op := [
  ⟨some 19, none, true, .ld true 12 (.t 2)⟩,
  ⟨some 20, none, true, .mv (.t 1)⟩,
  ⟨some 21, none, true, .mv (.t 6)⟩,
  ⟨some 22, none, true, .mv (.t 7)⟩,
  ⟨some 23, none, true, .idxS 3 (.t 21) (.t 22)⟩,
  ⟨some 24, none, true, .ld true 3 (.t 23)⟩,
  ⟨some 25, none, true, .call false (.c (.fn i_ref09_Origin [] [])) [(.t 19), (.t 20), (.t 24)]⟩,
  ⟨some 18, none, true, .mv (.t 25)⟩,
  ⟨some 26, none, true, .ext (.t 18) 0⟩,
  ⟨some 27, none, true, .ext (.t 18) 1⟩,
  ⟨some 8, none, true, .alcv [] [(.int .i64 0), (.int .i64 0)]⟩,
  ⟨none, none, true, .stv 8 [] 2 8 (.t 26)⟩,
  ⟨some 9, none, false, .mv (.t 27)⟩]

def f_ref09_Locate_r6 : List Abs.Op := [
  ⟨some 28, none, false, .mv (.t 9)⟩]

def f_ref09_Locate_r7 : List Abs.Op := [
  ⟨some 29, none, true, .mv (.t 5)⟩,
  ⟨some 30, none, true, .mv (.t 6)⟩,
  ⟨some 31, none, true, .mv (.t 7)⟩,
  ⟨some 32, none, true, .idxS 3 (.t 30) (.t 31)⟩,
  ⟨some 33, none, true, .ld true 3 (.t 32)⟩,
  ⟨some 34, none, true, .ldv 8 true 2 8⟩,
  ⟨some 35, none, true, .bld [(.int .i64 0), (.int .i64 0), (.int .i64 0), (.int .i64 0), (.int .i64 0)] [(0, 3, (.t 33)), (3, 2, (.t 34))]⟩,
  ⟨some 36, none, true, .bsi 1 5 [(.int .i64 0), (.int .i64 0), (.int .i64 0), (.int .i64 0), (.int .i64 0)] [(0, 5, (.t 35))]⟩,
  ⟨some 37, none, false, .app 5 40 (.t 29) (.t 36)⟩,
  ⟨some 5, none, false, .mv (.t 37)⟩]

def f_ref09_Locate_r8 : List Abs.Op := [
  ⟨some 16, none, false, .mv (.t 7)⟩,
  ⟨some 17, none, false, .bin .add (.t 16) (.c (.int .i64 1))⟩,
  ⟨some 7, none, false, .mv (.t 17)⟩]

def f_ref09_Locate_l9 : Abs.Cmd :=
  (.seq (.seq (.reg [1, 2, 5, 6, 7, 15] f_ref09_Locate_r4) (.ite (.t 15) .nop (.exit 0))) (.seq (.blk 1 (.seq (.reg [1, 2, 5, 6, 7, 8, 9] f_ref09_Locate_r5) (.seq (.reg [1, 2, 5, 6, 7, 8, 28] f_ref09_Locate_r6) (.ite (.t 28) (.reg [1, 2, 5, 6, 7] f_ref09_Locate_r7) .nop)))) (.reg [1, 2, 5, 6, 7] f_ref09_Locate_r8)))

def f_ref09_Locate_r10 : List Abs.Op := [
  ⟨some 38, none, false, .mv (.t 5)⟩,
  ⟨some 4, none, false, .mv (.t 38)⟩]

def a_ref09_Locate : Ann := ⟨[(9, [4]), (5, [1, 2, 5, 6, 7]), (8, [1, 2, 5, 6, 7]), (7, [1, 2, 5, 6, 7, 8, 28]), (6, [1, 2, 5, 6, 7, 8, 9]), (4, [1, 2, 5, 6, 7, 15]), (3, [1, 2, 5, 6, 7]), (2, [1, 2, 5, 6]), (1, [1, 2, 5]), (0, [1, 2])], [(0, [1, 2, 5, 6, 7])], [], [5, 8], [8], [], [], []⟩
def f_ref09_Locate : Abs.Fn := ⟨2, [.t 4],
  (.seq (.reg [1, 2] f_ref09_Locate_r0) (.seq (.reg [1, 2, 5] f_ref09_Locate_r1) (.seq (.reg [1, 2, 5, 6] f_ref09_Locate_r2) (.seq (.seq (.reg [1, 2, 5, 6, 7] f_ref09_Locate_r3) (.blk 0 (.loop [1, 2, 5, 6, 7] false f_ref09_Locate_l9))) (.seq (.reg [4] f_ref09_Locate_r10) .ret)))))⟩

theorem e_ref09_Locate_r0 : type_of% f_ref09_Locate_r0.eq_1 := by_rfl f_ref09_Locate_r0.eq_1
theorem e_ref09_Locate_r1 : type_of% f_ref09_Locate_r1.eq_1 := by_rfl f_ref09_Locate_r1.eq_1
theorem e_ref09_Locate_r2 : type_of% f_ref09_Locate_r2.eq_1 := by_rfl f_ref09_Locate_r2.eq_1
theorem e_ref09_Locate_r3 : type_of% f_ref09_Locate_r3.eq_1 := by_rfl f_ref09_Locate_r3.eq_1
theorem e_ref09_Locate_r4 : type_of% f_ref09_Locate_r4.eq_1 := by_rfl f_ref09_Locate_r4.eq_1
theorem e_ref09_Locate_r5 : type_of% f_ref09_Locate_r5.eq_1 := by_rfl f_ref09_Locate_r5.eq_1
theorem e_ref09_Locate_r6 : type_of% f_ref09_Locate_r6.eq_1 := by_rfl f_ref09_Locate_r6.eq_1
theorem e_ref09_Locate_r7 : type_of% f_ref09_Locate_r7.eq_1 := by_rfl f_ref09_Locate_r7.eq_1
theorem e_ref09_Locate_r8 : type_of% f_ref09_Locate_r8.eq_1 := by_rfl f_ref09_Locate_r8.eq_1
theorem e_ref09_Locate_l9 : type_of% f_ref09_Locate_l9.eq_1 := by_rfl f_ref09_Locate_l9.eq_1
theorem e_ref09_Locate_r10 : type_of% f_ref09_Locate_r10.eq_1 := by_rfl f_ref09_Locate_r10.eq_1
theorem e_ref09_Locate : type_of% f_ref09_Locate.eq_1 := by_rfl f_ref09_Locate.eq_1
theorem ok_ref09_Locate : fnC Try.prog a_ref09_Locate Try.f21 = some f_ref09_Locate := by kernel_rfl

/-! 22 fumarole/fumarolelaw09.located -/
def f_law09_located_r0 : List Abs.Op := [
  ⟨some 4, none, false, .mv (.c (.bool false))⟩]

def f_law09_located_r1 : List Abs.Op := [
  ⟨some 6, none, false, .mv (.t 0)⟩,
  ⟨some 7, none, false, .lenS (.t 6)⟩,
  ⟨some 8, none, false, .mv (.t 1)⟩,
  ⟨some 9, none, false, .lenS (.t 8)⟩,
  ⟨some 10, none, false, .bin .neq (.t 7) (.t 9)⟩]

def f_law09_located_r2 : List Abs.Op := [
  ⟨some 4, none, false, .mv (.c (.bool false))⟩]

def f_law09_located_r3 : List Abs.Op := [
  ⟨some 5, none, false, .mv (.c (.int .i64 0))⟩]

def f_law09_located_r4 : List Abs.Op := [
  ⟨some 11, none, false, .mv (.t 5)⟩,
  ⟨some 12, none, false, .mv (.t 0)⟩,
  ⟨some 13, none, false, .lenS (.t 12)⟩,
  ⟨some 14, none, false, .bin .lss (.t 11) (.t 13)⟩]

def f_law09_located_r5 : List Abs.Op := [
  ⟨some 17, none, true, .mv (.t 0)⟩,
  ⟨some 18, none, true, .mv (.t 5)⟩,
  ⟨some 19, none, true, .idxS 5 (.t 17) (.t 18)⟩,
  ⟨some 20, none, true, .ld true 5 (.t 19)⟩,
  ⟨some 21, none, true, .mv (.t 1)⟩,
  ⟨some 22, none, true, .mv (.t 5)⟩,
  ⟨some 23, none, true, .idxS 5 (.t 21) (.t 22)⟩,
  ⟨some 24, none, true, .fadr 0 (.t 23)⟩,
  ⟨some 25, none, true, .ld true 3 (.t 24)⟩,
  ⟨some 26, none, true, .call false (.c (.fn i_law09_Point [] [])) [(.t 25)]⟩,
  ⟨some 27, none, true, .mv (.t 1)⟩,
  ⟨some 28, none, true, .mv (.t 5)⟩,
  ⟨some 29, none, true, .idxS 5 (.t 27) (.t 28)⟩,
  ⟨some 30, none, true, .fadr 3 (.t 29)⟩,
  ⟨some 31, none, true, .ld true 2 (.t 30)⟩,
  ⟨some 32, none, true, .call false (.c (.fn i_law09_Range [] [])) [(.t 31)]⟩,
  ⟨some 33, none, true, .bld [(.int .i64 0), (.int .i64 0), (.int .i64 0), (.int .i64 0), (.int .i64 0)] [(0, 3, (.t 26)), (3, 2, (.t 32))]⟩,
  ⟨some 34, none, false, .eqv true [some .i64, some .i64, some .i64, some .i64, some .i64] true (.t 20) (.t 33)⟩]

def f_law09_located_r6 : List Abs.Op := [
  ⟨some 4, none, false, .mv (.c (.bool false))⟩]

def f_law09_located_r7 : List Abs.Op := [
  ⟨some 15, none, false, .mv (.t 5)⟩,
  ⟨some 16, none, false, .bin .add (.t 15) (.c (.int .i64 1))⟩,
  ⟨some 5, none, false, .mv (.t 16)⟩]

def f_law09_located_l8 : Abs.Cmd :=
  (.seq (.seq (.reg [0, 1, 5, 14] f_law09_located_r4) (.ite (.t 14) .nop (.exit 0))) (.seq (.blk 1 (.seq (.reg [0, 1, 5, 34] f_law09_located_r5) (.ite (.t 34) (.seq (.reg [4] f_law09_located_r6) .ret) .nop))) (.reg [0, 1, 5] f_law09_located_r7)))

def f_law09_located_r9 : List Abs.Op := [
  ⟨some 4, none, false, .mv (.c (.bool true))⟩]

def a_law09_located : Ann := ⟨[(8, [4]), (5, [0, 1, 5]), (7, [4]), (6, [0, 1, 5, 34]), (4, [0, 1, 5, 14]), (3, [0, 1, 5]), (2, [4]), (1, [0, 1, 10]), (0, [0, 1])], [(0, [0, 1, 5])], [], [], [], [], [], []⟩
def f_law09_located : Abs.Fn := ⟨2, [.t 4],
  (.seq (.reg [0, 1] f_law09_located_r0) (.seq (.seq (.reg [0, 1, 10] f_law09_located_r1) (.ite (.t 10) (.seq (.reg [4] f_law09_located_r2) .ret) .nop)) (.seq (.seq (.reg [0, 1, 5] f_law09_located_r3) (.blk 0 (.loop [0, 1, 5] false f_law09_located_l8))) (.seq (.reg [4] f_law09_located_r9) .ret))))⟩

theorem e_law09_located_r0 : type_of% f_law09_located_r0.eq_1 := by_rfl f_law09_located_r0.eq_1
theorem e_law09_located_r1 : type_of% f_law09_located_r1.eq_1 := by_rfl f_law09_located_r1.eq_1
theorem e_law09_located_r2 : type_of% f_law09_located_r2.eq_1 := by_rfl f_law09_located_r2.eq_1
theorem e_law09_located_r3 : type_of% f_law09_located_r3.eq_1 := by_rfl f_law09_located_r3.eq_1
theorem e_law09_located_r4 : type_of% f_law09_located_r4.eq_1 := by_rfl f_law09_located_r4.eq_1
theorem e_law09_located_r5 : type_of% f_law09_located_r5.eq_1 := by_rfl f_law09_located_r5.eq_1
theorem e_law09_located_r6 : type_of% f_law09_located_r6.eq_1 := by_rfl f_law09_located_r6.eq_1
theorem e_law09_located_r7 : type_of% f_law09_located_r7.eq_1 := by_rfl f_law09_located_r7.eq_1
theorem e_law09_located_l8 : type_of% f_law09_located_l8.eq_1 := by_rfl f_law09_located_l8.eq_1
theorem e_law09_located_r9 : type_of% f_law09_located_r9.eq_1 := by_rfl f_law09_located_r9.eq_1
theorem e_law09_located : type_of% f_law09_located.eq_1 := by_rfl f_law09_located.eq_1
theorem ok_law09_located : fnC Try.prog a_law09_located Try.f22 = some f_law09_located := by kernel_rfl

/-! 23 fumarole/tremor.Magnitude -/
def f_tremor_Magnitude_r0 : List Abs.Op := [
  ⟨some 4, none, false, .boxi (.t 0)⟩,
  ⟨some 5, none, false, .boxi (.t 1)⟩,
  ⟨some 6, none, false, .boxi (.t 2)⟩,
  ⟨some 8, none, false, .mv (.c (.int .i64 0))⟩,
  ⟨some 9, none, false, .mv (.c (.int .i64 0))⟩]

def f_tremor_Magnitude_r1 : List Abs.Op := [
  ⟨some 13, none, false, .ld true 12 (.t 4)⟩,
  ⟨some 14, none, false, .call false (.c (.fn i_tremor_Net_valid [] [])) [(.t 13)]⟩,
  ⟨some 15, none, false, .un .not (.t 14)⟩,
  ⟨some 16, none, false, .mv (.t 15)⟩,
  ⟨some 17, some (16, false), false, .ld true 2 (.t 5)⟩,
  ⟨some 18, some (16, false), false, .call false (.c (.fn i_tremor_Scale_valid [] [])) [(.t 17)]⟩,
  ⟨some 19, some (16, false), false, .un .not (.t 18)⟩,
  ⟨some 20, none, false, .pick (.t 16) (.c (.bool true)) (.t 19)⟩,
  ⟨some 21, none, false, .mv (.t 20)⟩,
  ⟨some 22, some (21, false), false, .ld true 3 (.t 6)⟩,
  ⟨some 23, some (21, false), false, .call false (.c (.fn i_tremor_Point_valid [] [])) [(.t 22)]⟩,
  ⟨some 24, some (21, false), false, .un .not (.t 23)⟩,
  ⟨some 25, none, false, .pick (.t 21) (.c (.bool true)) (.t 24)⟩,
  ⟨some 26, none, false, .mv (.t 25)⟩,
  ⟨some 27, some (26, false), false, .mv (.t 3)⟩,
  ⟨some 28, some (26, false), false, .lenS (.t 27)⟩,
  ⟨some 29, some (26, false), false, .call false (.c (.fn i_tremor_within [] [])) [(.t 28), (.c (.int .i64 1)), (.c (.int .i64 12))]⟩,
  ⟨some 30, some (26, false), false, .un .not (.t 29)⟩,
  ⟨some 31, none, false, .pick (.t 26) (.c (.bool true)) (.t 30)⟩,
  ⟨some 32, none, false, .mv (.t 31)⟩,
  ⟨some 33, some (32, false), false, .mv (.t 3)⟩,
  ⟨some 34, some (32, false), false, .mkf i_tremor_Magnitude_1 [] [(.t 4)]⟩,
  ⟨some 35, some (32, false), false, .call false (.c (.fn i_tremor_all_tremor_Reading [] [])) [(.t 33), (.t 34)]⟩,
  ⟨some 36, some (32, false), false, .un .not (.t 35)⟩,
  ⟨some 37, none, false, .pick (.t 32) (.c (.bool true)) (.t 36)⟩]

def f_tremor_Magnitude_r2 : List Abs.Op := [
  ⟨some 8, none, false, .mv (.c (.int .i64 0))⟩,
  ⟨some 9, none, false, .mv (.c (.int .i64 1))⟩]

def f_tremor_Magnitude_r3 : List Abs.Op := [
  ⟨some 10, none, false, .mv (.c (.int .i64 0))⟩]

def f_tremor_Magnitude_r4 : List Abs.Op := [
  ⟨some 38, none, false, .mv (.t 3)⟩,
  ⟨some 39, none, false, .lenS (.t 38)⟩,
  ⟨some 40, none, false, .mv (.c (.int .i64 0))⟩]

def f_tremor_Magnitude_r5 : List Abs.Op := [
  ⟨some 41, none, false, .bin .lss (.t 40) (.t 39)⟩]

def f_tremor_Magnitude_r6 : List Abs.Op := [
  ⟨some 42, none, false, .idxS 2 (.t 38) (.t 40)⟩,
  ⟨some 43, none, false, .ld true 2 (.t 42)⟩,
  ⟨some 12, none, false, .alcv [] [(.int .i64 0), (.int .i64 0)]⟩,
  ⟨none, none, false, .stv 12 [] 2 12 (.t 43)⟩]

def f_tremor_Magnitude_r7 : List Abs.Op := [
  ⟨some 44, none, true, .mv (.t 10)⟩,
  ⟨some 45, none, true, .ld true 2 (.t 5)⟩,
  ⟨some 46, none, true, .fadr 1 (.t 12)⟩,
  ⟨some 47, none, true, .ldv 12 false 1 46⟩,
  ⟨some 48, none, true, .fadr 0 (.t 4)⟩,
  ⟨some 49, none, true, .ld false 1 (.t 48)⟩,
  ⟨some 50, none, true, .fadr 0 (.t 12)⟩,
  ⟨some 51, none, true, .ldv 12 false 1 50⟩,
  ⟨some 52, none, true, .idxS 4 (.t 49) (.t 51)⟩,
  ⟨some 53, none, true, .fadr 0 (.t 52)⟩,
  ⟨some 54, none, true, .ld true 3 (.t 53)⟩,
  ⟨some 55, none, true, .ld true 3 (.t 6)⟩,
  ⟨some 56, none, true, .call false (.c (.fn i_tremor_Point_far [] [])) [(.t 54), (.t 55)]⟩,
  ⟨some 57, none, true, .call false (.c (.fn i_tremor_Scale_of [] [])) [(.t 45), (.t 47), (.t 56)]⟩,
  ⟨some 58, none, false, .bin .add (.t 44) (.t 57)⟩,
  ⟨some 10, none, false, .mv (.t 58)⟩]

def f_tremor_Magnitude_r8 : List Abs.Op := [
  ⟨some 59, none, false, .bin .add (.t 40) (.c (.int .i64 1))⟩,
  ⟨some 40, none, false, .mv (.t 59)⟩]

def f_tremor_Magnitude_l9 : Abs.Cmd :=
  (.seq (.reg [3, 4, 5, 6, 10, 38, 39, 40, 41] f_tremor_Magnitude_r5) (.seq (.ite (.t 41) .nop (.exit 0)) (.seq (.blk 1 (.seq (.reg [3, 4, 5, 6, 10, 12, 38, 39, 40] f_tremor_Magnitude_r6) (.reg [3, 4, 5, 6, 10, 38, 39, 40] f_tremor_Magnitude_r7))) (.reg [3, 4, 5, 6, 10, 38, 39, 40] f_tremor_Magnitude_r8))))

def f_tremor_Magnitude_r10 : List Abs.Op := [
  ⟨some 60, none, false, .mv (.t 10)⟩,
  ⟨some 61, none, false, .mv (.t 3)⟩,
  ⟨some 62, none, false, .lenS (.t 61)⟩,
  ⟨some 63, none, false, .bin .quo (.t 60) (.t 62)⟩,
  ⟨some 8, none, false, .mv (.t 63)⟩,
  ⟨some 9, none, false, .mv (.c (.int .i64 0))⟩]

def a_tremor_Magnitude : Ann := ⟨[(9, [8, 9]), (8, [3, 4, 5, 6, 10, 38, 39, 40]), (7, [3, 4, 5, 6, 10, 38, 39, 40]), (6, [3, 4, 5, 6, 10, 12, 38, 39, 40]), (5, [3, 4, 5, 6, 10, 38, 39, 40, 41]), (4, [3, 4, 5, 6, 10, 38, 39, 40]), (3, [3, 4, 5, 6, 10]), (2, [8, 9]), (1, [3, 4, 5, 6, 37]), (0, [3, 4, 5, 6])], [(0, [3, 4, 5, 6, 10, 38, 39, 40])], [], [12], [12], [], [], []⟩
def f_tremor_Magnitude : Abs.Fn := ⟨4, [.t 8, .t 9],
  (.seq (.reg [3, 4, 5, 6] f_tremor_Magnitude_r0) (.seq (.seq (.reg [3, 4, 5, 6, 37] f_tremor_Magnitude_r1) (.ite (.t 37) (.seq (.reg [8, 9] f_tremor_Magnitude_r2) .ret) .nop)) (.seq (.reg [3, 4, 5, 6, 10] f_tremor_Magnitude_r3) (.seq (.seq (.reg [3, 4, 5, 6, 10, 38, 39, 40] f_tremor_Magnitude_r4) (.blk 0 (.loop [3, 4, 5, 6, 10, 38, 39, 40] false f_tremor_Magnitude_l9))) (.seq (.reg [8, 9] f_tremor_Magnitude_r10) .ret)))))⟩

theorem e_tremor_Magnitude_r0 : type_of% f_tremor_Magnitude_r0.eq_1 := by_rfl f_tremor_Magnitude_r0.eq_1
theorem e_tremor_Magnitude_r1 : type_of% f_tremor_Magnitude_r1.eq_1 := by_rfl f_tremor_Magnitude_r1.eq_1
theorem e_tremor_Magnitude_r2 : type_of% f_tremor_Magnitude_r2.eq_1 := by_rfl f_tremor_Magnitude_r2.eq_1
theorem e_tremor_Magnitude_r3 : type_of% f_tremor_Magnitude_r3.eq_1 := by_rfl f_tremor_Magnitude_r3.eq_1
theorem e_tremor_Magnitude_r4 : type_of% f_tremor_Magnitude_r4.eq_1 := by_rfl f_tremor_Magnitude_r4.eq_1
theorem e_tremor_Magnitude_r5 : type_of% f_tremor_Magnitude_r5.eq_1 := by_rfl f_tremor_Magnitude_r5.eq_1
theorem e_tremor_Magnitude_r6 : type_of% f_tremor_Magnitude_r6.eq_1 := by_rfl f_tremor_Magnitude_r6.eq_1
theorem e_tremor_Magnitude_r7 : type_of% f_tremor_Magnitude_r7.eq_1 := by_rfl f_tremor_Magnitude_r7.eq_1
theorem e_tremor_Magnitude_r8 : type_of% f_tremor_Magnitude_r8.eq_1 := by_rfl f_tremor_Magnitude_r8.eq_1
theorem e_tremor_Magnitude_l9 : type_of% f_tremor_Magnitude_l9.eq_1 := by_rfl f_tremor_Magnitude_l9.eq_1
theorem e_tremor_Magnitude_r10 : type_of% f_tremor_Magnitude_r10.eq_1 := by_rfl f_tremor_Magnitude_r10.eq_1
theorem e_tremor_Magnitude : type_of% f_tremor_Magnitude.eq_1 := by_rfl f_tremor_Magnitude.eq_1
theorem ok_tremor_Magnitude : fnC Try.prog a_tremor_Magnitude Try.f23 = some f_tremor_Magnitude := by kernel_rfl

/-! 24 fumarole/fumarolelaw09.Scale -/
def f_law09_Scale_r0 : List Abs.Op := [
  ⟨some 1, none, false, .boxi (.t 0)⟩,
  ⟨some 2, none, false, .alcv [] [.nils, .nils]⟩]

def f_law09_Scale_r1 : List Abs.Op := [
  ⟨some 5, none, false, .fadr 0 (.t 1)⟩,
  ⟨some 6, none, false, .ld false 1 (.t 5)⟩,
  ⟨some 7, none, false, .cpi 1 8 (.t 6)⟩,
  ⟨some 8, none, false, .bld [.nils, .nils] [(0, 1, (.t 7))]⟩,
  ⟨some 3, none, false, .alcv [] [.nils, .nils]⟩,
  ⟨none, none, false, .stv 3 [(1, 2)] 2 3 (.t 8)⟩]

def f_law09_Scale_r2 : List Abs.Op := [
  ⟨some 4, none, false, .mv (.c (.int .i64 0))⟩]

def f_law09_Scale_r3 : List Abs.Op := [
  ⟨some 9, none, false, .mv (.t 4)⟩,
  ⟨some 10, none, false, .fadr 1 (.t 1)⟩,
  ⟨some 11, none, false, .ld false 1 (.t 10)⟩,
  ⟨some 12, none, false, .lenS (.t 11)⟩,
  ⟨some 13, none, false, .bin .lss (.t 9) (.t 12)⟩]

def f_law09_Scale_r4 : List Abs.Op := [
  ⟨some 16, none, true, .fadr 1 (.t 3)⟩,
  ⟨some 17, none, true, .ldv 3 false 1 16⟩,
  ⟨some 18, none, true, .fadr 1 (.t 1)⟩,
  ⟨some 19, none, true, .ld false 1 (.t 18)⟩,
  ⟨some 20, none, true, .mv (.t 4)⟩,
  ⟨some 21, none, true, .idxS 2 (.t 19) (.t 20)⟩,
  ⟨some 22, none, true, .fadr 0 (.t 21)⟩,
  ⟨some 23, none, true, .ld false 1 (.t 22)⟩,
  ⟨some 24, none, true, .fadr 1 (.t 1)⟩,
  ⟨some 25, none, true, .ld false 1 (.t 24)⟩,
  ⟨some 26, none, true, .mv (.t 4)⟩,
  ⟨some 27, none, true, .idxS 2 (.t 25) (.t 26)⟩,
  ⟨some 28, none, true, .fadr 1 (.t 27)⟩,
  ⟨some 29, none, true, .ld false 1 (.t 28)⟩,
  ⟨some 30, none, true, .bld [(.int .i64 0), (.int .i64 0)] [(0, 1, (.t 23)), (1, 1, (.t 29))]⟩,
  ⟨some 31, none, true, .bsi 1 2 [(.int .i64 0), (.int .i64 0)] [(0, 2, (.t 30))]⟩,
  ⟨some 32, none, false, .app 2 16 (.t 17) (.t 31)⟩,
  ⟨some 33, none, false, .fadr 1 (.t 3)⟩,
  ⟨none, none, false, .stv 3 [(0, 2)] 1 33 (.t 32)⟩]

def f_law09_Scale_r5 : List Abs.Op := [
  ⟨some 14, none, false, .mv (.t 4)⟩,
  ⟨some 15, none, false, .bin .add (.t 14) (.c (.int .i64 1))⟩,
  ⟨some 4, none, false, .mv (.t 15)⟩]

def f_law09_Scale_l6 : Abs.Cmd :=
  (.seq (.seq (.reg [1, 2, 3, 4, 13] f_law09_Scale_r3) (.ite (.t 13) .nop (.exit 0))) (.seq (.blk 1 (.reg [1, 2, 3, 4] f_law09_Scale_r4)) (.reg [1, 2, 3, 4] f_law09_Scale_r5)))

def f_law09_Scale_r7 : List Abs.Op := [
  ⟨some 34, none, false, .ldv 3 true 2 3⟩,
  ⟨none, none, false, .stv 2 [] 2 2 (.t 34)⟩]

def a_law09_Scale : Ann := ⟨[(6, [2]), (4, [1, 2, 3, 4]), (5, [1, 2, 3, 4]), (3, [1, 2, 3, 4, 13]), (2, [1, 2, 3, 4]), (1, [1, 2, 3]), (0, [1, 2])], [(0, [1, 2, 3, 4])], [], [2, 3], [2, 3], [(1005, [(1, 2)]), (5018, [(0, 2)])], [], []⟩
def f_law09_Scale : Abs.Fn := ⟨1, [.v 2 true 2],
  (.seq (.reg [1, 2] f_law09_Scale_r0) (.seq (.reg [1, 2, 3] f_law09_Scale_r1) (.seq (.seq (.reg [1, 2, 3, 4] f_law09_Scale_r2) (.blk 0 (.loop [1, 2, 3, 4] false f_law09_Scale_l6))) (.seq (.reg [2] f_law09_Scale_r7) .ret))))⟩

theorem e_law09_Scale_r0 : type_of% f_law09_Scale_r0.eq_1 := by_rfl f_law09_Scale_r0.eq_1
theorem e_law09_Scale_r1 : type_of% f_law09_Scale_r1.eq_1 := by_rfl f_law09_Scale_r1.eq_1
theorem e_law09_Scale_r2 : type_of% f_law09_Scale_r2.eq_1 := by_rfl f_law09_Scale_r2.eq_1
theorem e_law09_Scale_r3 : type_of% f_law09_Scale_r3.eq_1 := by_rfl f_law09_Scale_r3.eq_1
theorem e_law09_Scale_r4 : type_of% f_law09_Scale_r4.eq_1 := by_rfl f_law09_Scale_r4.eq_1
theorem e_law09_Scale_r5 : type_of% f_law09_Scale_r5.eq_1 := by_rfl f_law09_Scale_r5.eq_1
theorem e_law09_Scale_l6 : type_of% f_law09_Scale_l6.eq_1 := by_rfl f_law09_Scale_l6.eq_1
theorem e_law09_Scale_r7 : type_of% f_law09_Scale_r7.eq_1 := by_rfl f_law09_Scale_r7.eq_1
theorem e_law09_Scale : type_of% f_law09_Scale.eq_1 := by_rfl f_law09_Scale.eq_1
theorem ok_law09_Scale : fnC Try.prog a_law09_Scale Try.f24 = some f_law09_Scale := by kernel_rfl

/-! 25 fumarole/fumarolelaw09.Point -/
def f_law09_Point_r0 : List Abs.Op := [
  ⟨some 1, none, false, .boxi (.t 0)⟩,
  ⟨some 2, none, false, .alcv [] [(.int .i64 0), (.int .i64 0), (.int .i64 0)]⟩]

def f_law09_Point_r1 : List Abs.Op := [
  ⟨some 3, none, false, .fadr 0 (.t 1)⟩,
  ⟨some 4, none, false, .ld false 1 (.t 3)⟩,
  ⟨some 5, none, false, .fadr 1 (.t 1)⟩,
  ⟨some 6, none, false, .ld false 1 (.t 5)⟩,
  ⟨some 7, none, false, .fadr 2 (.t 1)⟩,
  ⟨some 8, none, false, .ld false 1 (.t 7)⟩,
  ⟨some 9, none, false, .bld [(.int .i64 0), (.int .i64 0), (.int .i64 0)] [(0, 1, (.t 4)), (1, 1, (.t 6)), (2, 1, (.t 8))]⟩,
  ⟨none, none, false, .stv 2 [] 3 2 (.t 9)⟩]

def a_law09_Point : Ann := ⟨[(1, [2]), (0, [1, 2])], [], [], [2], [2], [], [], []⟩
def f_law09_Point : Abs.Fn := ⟨1, [.v 2 true 3],
  (.seq (.reg [1, 2] f_law09_Point_r0) (.seq (.reg [2] f_law09_Point_r1) .ret))⟩

theorem e_law09_Point_r0 : type_of% f_law09_Point_r0.eq_1 := by_rfl f_law09_Point_r0.eq_1
theorem e_law09_Point_r1 : type_of% f_law09_Point_r1.eq_1 := by_rfl f_law09_Point_r1.eq_1
theorem e_law09_Point : type_of% f_law09_Point.eq_1 := by_rfl f_law09_Point.eq_1
theorem ok_law09_Point : fnC Try.prog a_law09_Point Try.f25 = some f_law09_Point := by kernel_rfl

/-! 26 fumarole/fumarolelaw09.Readings -/
def f_law09_Readings_r0 : List Abs.Op := [
  ⟨some 2, none, false, .mv (.c .nils)⟩]

def f_law09_Readings_r1 : List Abs.Op := [
  ⟨some 3, none, false, .nilb 2⟩]

def f_law09_Readings_r2 : List Abs.Op := [
  ⟨some 4, none, false, .mv (.c (.int .i64 0))⟩]

def f_law09_Readings_r3 : List Abs.Op := [
  ⟨some 5, none, false, .mv (.t 4)⟩,
  ⟨some 6, none, false, .mv (.t 0)⟩,
  ⟨some 7, none, false, .lenS (.t 6)⟩,
  ⟨some 8, none, false, .bin .lss (.t 5) (.t 7)⟩]

def f_law09_Readings_r4 : List Abs.Op := [
  ⟨some 11, none, true, .mv (.t 3)⟩,
  ⟨some 12, none, true, .mv (.t 0)⟩,
  ⟨some 13, none, true, .mv (.t 4)⟩,
  ⟨some 14, none, true, .idxS 2 (.t 12) (.t 13)⟩,
  ⟨some 15, none, true, .fadr 0 (.t 14)⟩,
  ⟨some 16, none, true, .ld false 1 (.t 15)⟩,
  ⟨some 17, none, true, .mv (.t 0)⟩,
  ⟨some 18, none, true, .mv (.t 4)⟩,
  ⟨some 19, none, true, .idxS 2 (.t 17) (.t 18)⟩,
  ⟨some 20, none, true, .fadr 1 (.t 19)⟩,
  ⟨some 21, none, true, .ld false 1 (.t 20)⟩,
  ⟨some 22, none, true, .bld [(.int .i64 0), (.int .i64 0)] [(0, 1, (.t 16)), (1, 1, (.t 21))]⟩,
  ⟨some 23, none, true, .bsi 1 2 [(.int .i64 0), (.int .i64 0)] [(0, 2, (.t 22))]⟩,
  ⟨some 24, none, false, .app 2 16 (.t 11) (.t 23)⟩,
  ⟨some 3, none, false, .mv (.t 24)⟩]

def f_law09_Readings_r5 : List Abs.Op := [
  ⟨some 9, none, false, .mv (.t 4)⟩,
  ⟨some 10, none, false, .bin .add (.t 9) (.c (.int .i64 1))⟩,
  ⟨some 4, none, false, .mv (.t 10)⟩]

def f_law09_Readings_l6 : Abs.Cmd :=
  (.seq (.seq (.reg [0, 3, 4, 8] f_law09_Readings_r3) (.ite (.t 8) .nop (.exit 0))) (.seq (.blk 1 (.reg [0, 3, 4] f_law09_Readings_r4)) (.reg [0, 3, 4] f_law09_Readings_r5)))

def f_law09_Readings_r7 : List Abs.Op := [
  ⟨some 25, none, false, .mv (.t 3)⟩,
  ⟨some 2, none, false, .mv (.t 25)⟩]

def a_law09_Readings : Ann := ⟨[(6, [2]), (4, [0, 3, 4]), (5, [0, 3, 4]), (3, [0, 3, 4, 8]), (2, [0, 3, 4]), (1, [0, 3]), (0, [0])], [(0, [0, 3, 4])], [], [3], [], [], [], []⟩
def f_law09_Readings : Abs.Fn := ⟨1, [.t 2],
  (.seq (.reg [0] f_law09_Readings_r0) (.seq (.reg [0, 3] f_law09_Readings_r1) (.seq (.seq (.reg [0, 3, 4] f_law09_Readings_r2) (.blk 0 (.loop [0, 3, 4] false f_law09_Readings_l6))) (.seq (.reg [2] f_law09_Readings_r7) .ret))))⟩

theorem e_law09_Readings_r0 : type_of% f_law09_Readings_r0.eq_1 := by_rfl f_law09_Readings_r0.eq_1
theorem e_law09_Readings_r1 : type_of% f_law09_Readings_r1.eq_1 := by_rfl f_law09_Readings_r1.eq_1
theorem e_law09_Readings_r2 : type_of% f_law09_Readings_r2.eq_1 := by_rfl f_law09_Readings_r2.eq_1
theorem e_law09_Readings_r3 : type_of% f_law09_Readings_r3.eq_1 := by_rfl f_law09_Readings_r3.eq_1
theorem e_law09_Readings_r4 : type_of% f_law09_Readings_r4.eq_1 := by_rfl f_law09_Readings_r4.eq_1
theorem e_law09_Readings_r5 : type_of% f_law09_Readings_r5.eq_1 := by_rfl f_law09_Readings_r5.eq_1
theorem e_law09_Readings_l6 : type_of% f_law09_Readings_l6.eq_1 := by_rfl f_law09_Readings_l6.eq_1
theorem e_law09_Readings_r7 : type_of% f_law09_Readings_r7.eq_1 := by_rfl f_law09_Readings_r7.eq_1
theorem e_law09_Readings : type_of% f_law09_Readings.eq_1 := by_rfl f_law09_Readings.eq_1
theorem ok_law09_Readings : fnC Try.prog a_law09_Readings Try.f26 = some f_law09_Readings := by kernel_rfl

/-! 27 fumarole/fumaroleref09.Right -/
def f_ref09_Right_r0 : List Abs.Op := [
  ⟨some 1, none, false, .boxi (.t 0)⟩,
  ⟨some 2, none, false, .mv (.c (.bool false))⟩]

def f_ref09_Right_r1 : List Abs.Op := [
  ⟨some 5, none, false, .fadr 0 (.t 1)⟩,
  ⟨some 6, none, false, .ld false 1 (.t 5)⟩,
  ⟨some 7, none, false, .lenS (.t 6)⟩,
  ⟨some 8, none, false, .bin .lss (.t 7) (.c (.int .i64 1))⟩,
  ⟨some 9, none, false, .mv (.t 8)⟩,
  ⟨some 10, some (9, false), false, .fadr 0 (.t 1)⟩,
  ⟨some 11, some (9, false), false, .ld false 1 (.t 10)⟩,
  ⟨some 12, some (9, false), false, .lenS (.t 11)⟩,
  ⟨some 13, some (9, false), false, .bin .gtr (.t 12) (.c (.int .i64 12))⟩,
  ⟨some 14, none, false, .pick (.t 9) (.c (.bool true)) (.t 13)⟩,
  ⟨some 15, none, false, .mv (.t 14)⟩,
  ⟨some 16, some (15, false), false, .fadr 5 (.t 1)⟩,
  ⟨some 17, some (15, false), false, .ld true 3 (.t 16)⟩,
  ⟨some 18, some (15, false), false, .fadr 8 (.t 1)⟩,
  ⟨some 19, some (15, false), false, .ld true 3 (.t 18)⟩,
  ⟨some 20, some (15, false), false, .call false (.c (.fn i_ref09_Box [] [])) [(.t 17), (.t 19)]⟩,
  ⟨some 21, some (15, false), false, .un .not (.t 20)⟩,
  ⟨some 22, none, false, .pick (.t 15) (.c (.bool true)) (.t 21)⟩,
  ⟨some 23, none, false, .mv (.t 22)⟩,
  ⟨some 24, some (23, false), false, .fadr 11 (.t 1)⟩,
  ⟨some 25, some (23, false), false, .ld false 1 (.t 24)⟩,
  ⟨some 26, some (23, false), false, .call false (.c (.fn i_ref09_In [] [])) [(.t 25), (.c (.int .i64 1)), (.c (.int .i64 20000))]⟩,
  ⟨some 27, some (23, false), false, .un .not (.t 26)⟩,
  ⟨some 28, none, false, .pick (.t 23) (.c (.bool true)) (.t 27)⟩]

def f_ref09_Right_r2 : List Abs.Op := [
  ⟨some 2, none, false, .mv (.c (.bool false))⟩]

def f_ref09_Right_r3 : List Abs.Op := [
  ⟨some 3, none, false, .mv (.c (.int .i64 0))⟩]

def f_ref09_Right_r4 : List Abs.Op := [
  ⟨some 29, none, false, .mv (.t 3)⟩,
  ⟨some 30, none, false, .fadr 0 (.t 1)⟩,
  ⟨some 31, none, false, .ld false 1 (.t 30)⟩,
  ⟨some 32, none, false, .lenS (.t 31)⟩,
  ⟨some 33, none, false, .bin .lss (.t 29) (.t 32)⟩]

def f_ref09_Right_r5 : List Abs.Op := [
  ⟨some 36, none, false, .fadr 0 (.t 1)⟩,
  ⟨some 37, none, false, .ld false 1 (.t 36)⟩,
  ⟨some 38, none, false, .mv (.t 3)⟩,
  ⟨some 39, none, false, .idxS 4 (.t 37) (.t 38)⟩,
  ⟨some 40, none, false, .fadr 0 (.t 39)⟩,
  ⟨some 41, none, false, .ld true 3 (.t 40)⟩,
  ⟨some 42, none, false, .call false (.c (.fn i_ref09_Dot [] [])) [(.t 41)]⟩,
  ⟨some 43, none, false, .un .not (.t 42)⟩,
  ⟨some 44, none, false, .mv (.t 43)⟩,
  ⟨some 45, some (44, false), false, .fadr 0 (.t 1)⟩,
  ⟨some 46, some (44, false), false, .ld false 1 (.t 45)⟩,
  ⟨some 47, some (44, false), false, .mv (.t 3)⟩,
  ⟨some 48, some (44, false), false, .idxS 4 (.t 46) (.t 47)⟩,
  ⟨some 49, some (44, false), false, .fadr 3 (.t 48)⟩,
  ⟨some 50, some (44, false), false, .ld false 1 (.t 49)⟩,
  ⟨some 51, some (44, false), false, .call false (.c (.fn i_ref09_In [] [])) [(.t 50), (.c (.int .i64 0)), (.c (.int .i64 1000))]⟩,
  ⟨some 52, some (44, false), false, .un .not (.t 51)⟩,
  ⟨some 53, none, false, .pick (.t 44) (.c (.bool true)) (.t 52)⟩]

def f_ref09_Right_r6 : List Abs.Op := [
  ⟨some 2, none, false, .mv (.c (.bool false))⟩]

def f_ref09_Right_r7 : List Abs.Op := [
  ⟨some 34, none, false, .mv (.t 3)⟩,
  ⟨some 35, none, false, .bin .add (.t 34) (.c (.int .i64 1))⟩,
  ⟨some 3, none, false, .mv (.t 35)⟩]

def f_ref09_Right_l8 : Abs.Cmd :=
  (.seq (.seq (.reg [1, 3, 33] f_ref09_Right_r4) (.ite (.t 33) .nop (.exit 0))) (.seq (.blk 1 (.seq (.reg [1, 3, 53] f_ref09_Right_r5) (.ite (.t 53) (.seq (.reg [2] f_ref09_Right_r6) .ret) .nop))) (.reg [1, 3] f_ref09_Right_r7)))

def f_ref09_Right_r9 : List Abs.Op := [
  ⟨some 4, none, false, .mv (.c (.int .i64 0))⟩]

def f_ref09_Right_r10 : List Abs.Op := [
  ⟨some 54, none, false, .mv (.t 4)⟩,
  ⟨some 55, none, false, .bin .lss (.t 54) (.c (.int .i64 2))⟩]

def f_ref09_Right_r11 : List Abs.Op := [
  ⟨some 58, none, true, .mv (.t 4)⟩,
  ⟨some 59, none, true, .fadr 1 (.t 1)⟩,
  ⟨some 60, none, true, .idxA 2 2 (.t 59) (.t 58)⟩,
  ⟨some 61, none, true, .fadr 0 (.t 60)⟩,
  ⟨some 62, none, true, .ld false 1 (.t 61)⟩,
  ⟨some 63, none, true, .bin .lss (.t 62) (.c (.int .i64 1))⟩,
  ⟨some 64, none, true, .mv (.t 63)⟩,
  ⟨some 65, some (64, false), true, .mv (.t 4)⟩,
  ⟨some 66, some (64, false), true, .fadr 1 (.t 1)⟩,
  ⟨some 67, some (64, false), true, .idxA 2 2 (.t 66) (.t 65)⟩,
  ⟨some 68, some (64, false), true, .fadr 0 (.t 67)⟩,
  ⟨some 69, some (64, false), true, .ld false 1 (.t 68)⟩,
  ⟨some 70, some (64, false), true, .mv (.t 4)⟩,
  ⟨some 71, some (64, false), true, .fadr 1 (.t 1)⟩,
  ⟨some 72, some (64, false), true, .idxA 2 2 (.t 71) (.t 70)⟩,
  ⟨some 73, some (64, false), true, .fadr 1 (.t 72)⟩,
  ⟨some 74, some (64, false), true, .ld false 1 (.t 73)⟩,
  ⟨some 75, some (64, false), true, .bin .gtr (.t 69) (.t 74)⟩,
  ⟨some 76, none, true, .pick (.t 64) (.c (.bool true)) (.t 75)⟩,
  ⟨some 77, none, true, .mv (.t 76)⟩,
  ⟨some 78, some (77, false), true, .mv (.t 4)⟩,
  ⟨some 79, some (77, false), true, .fadr 1 (.t 1)⟩,
  ⟨some 80, some (77, false), false, .idxA 2 2 (.t 79) (.t 78)⟩,
  ⟨some 81, some (77, false), false, .fadr 1 (.t 80)⟩,
  ⟨some 82, some (77, false), false, .ld false 1 (.t 81)⟩,
  ⟨some 83, some (77, false), false, .bin .gtr (.t 82) (.c (.int .i64 2000))⟩,
  ⟨some 84, none, false, .pick (.t 77) (.c (.bool true)) (.t 83)⟩]

def f_ref09_Right_r12 : List Abs.Op := [
  ⟨some 2, none, false, .mv (.c (.bool false))⟩]

def f_ref09_Right_r13 : List Abs.Op := [
  ⟨some 56, none, false, .mv (.t 4)⟩,
  ⟨some 57, none, false, .bin .add (.t 56) (.c (.int .i64 1))⟩,
  ⟨some 4, none, false, .mv (.t 57)⟩]

def f_ref09_Right_l14 : Abs.Cmd :=
  (.seq (.seq (.reg [1, 4, 55] f_ref09_Right_r10) (.ite (.t 55) .nop (.exit 2))) (.seq (.blk 3 (.seq (.reg [1, 4, 84] f_ref09_Right_r11) (.ite (.t 84) (.seq (.reg [2] f_ref09_Right_r12) .ret) .nop))) (.reg [1, 4] f_ref09_Right_r13)))

def f_ref09_Right_r15 : List Abs.Op := [
  ⟨some 85, none, true, .fadr 8 (.t 1)⟩,
  ⟨some 86, none, true, .fadr 0 (.t 85)⟩,
  ⟨some 87, none, true, .ld false 1 (.t 86)⟩,
  ⟨some 88, none, true, .fadr 5 (.t 1)⟩,
  ⟨some 89, none, true, .fadr 0 (.t 88)⟩,
  ⟨some 90, none, true, .ld false 1 (.t 89)⟩,
  ⟨some 91, none, true, .bin .sub (.t 87) (.t 90)⟩,
  ⟨some 92, none, true, .fadr 11 (.t 1)⟩,
  ⟨some 93, none, true, .ld false 1 (.t 92)⟩,
  ⟨some 94, none, true, .bin .quo (.t 91) (.t 93)⟩,
  ⟨some 95, none, true, .bin .add (.t 94) (.c (.int .i64 1))⟩,
  ⟨some 96, none, true, .fadr 8 (.t 1)⟩,
  ⟨some 97, none, true, .fadr 1 (.t 96)⟩,
  ⟨some 98, none, true, .ld false 1 (.t 97)⟩,
  ⟨some 99, none, true, .fadr 5 (.t 1)⟩,
  ⟨some 100, none, true, .fadr 1 (.t 99)⟩,
  ⟨some 101, none, true, .ld false 1 (.t 100)⟩,
  ⟨some 102, none, true, .bin .sub (.t 98) (.t 101)⟩,
  ⟨some 103, none, true, .fadr 11 (.t 1)⟩,
  ⟨some 104, none, true, .ld false 1 (.t 103)⟩,
  ⟨some 105, none, true, .bin .quo (.t 102) (.t 104)⟩,
  ⟨some 106, none, true, .bin .add (.t 105) (.c (.int .i64 1))⟩,
  ⟨some 107, none, true, .bin .mul (.t 95) (.t 106)⟩,
  ⟨some 108, none, true, .fadr 8 (.t 1)⟩,
  ⟨some 109, none, true, .fadr 2 (.t 108)⟩,
  ⟨some 110, none, true, .ld false 1 (.t 109)⟩,
  ⟨some 111, none, true, .fadr 5 (.t 1)⟩,
  ⟨some 112, none, true, .fadr 2 (.t 111)⟩,
  ⟨some 113, none, true, .ld false 1 (.t 112)⟩,
  ⟨some 114, none, true, .bin .sub (.t 110) (.t 113)⟩,
  ⟨some 115, none, true, .fadr 11 (.t 1)⟩,
  ⟨some 116, none, true, .ld false 1 (.t 115)⟩,
  ⟨some 117, none, true, .bin .quo (.t 114) (.t 116)⟩,
  ⟨some 118, none, true, .bin .add (.t 117) (.c (.int .i64 1))⟩,
  ⟨some 119, none, false, .bin .mul (.t 107) (.t 118)⟩,
  ⟨some 120, none, false, .bin .leq (.t 119) (.c (.int .i64 2000))⟩,
  ⟨some 2, none, false, .mv (.t 120)⟩]

def a_ref09_Right : Ann := ⟨[(13, [2]), (10, [1, 4]), (12, [2]), (11, [1, 4, 84]), (9, [1, 4, 55]), (8, [1, 4]), (5, [1, 3]), (7, [2]), (6, [1, 3, 53]), (4, [1, 3, 33]), (3, [1, 3]), (2, [2]), (1, [1, 28]), (0, [1])], [(2, [1, 4]), (0, [1, 3])], [], [], [], [], [], []⟩
def f_ref09_Right : Abs.Fn := ⟨1, [.t 2],
  (.seq (.reg [1] f_ref09_Right_r0) (.seq (.seq (.reg [1, 28] f_ref09_Right_r1) (.ite (.t 28) (.seq (.reg [2] f_ref09_Right_r2) .ret) .nop)) (.seq (.seq (.reg [1, 3] f_ref09_Right_r3) (.blk 0 (.loop [1, 3] false f_ref09_Right_l8))) (.seq (.seq (.reg [1, 4] f_ref09_Right_r9) (.blk 2 (.loop [1, 4] false f_ref09_Right_l14))) (.seq (.reg [2] f_ref09_Right_r15) .ret)))))⟩

theorem e_ref09_Right_r0 : type_of% f_ref09_Right_r0.eq_1 := by_rfl f_ref09_Right_r0.eq_1
theorem e_ref09_Right_r1 : type_of% f_ref09_Right_r1.eq_1 := by_rfl f_ref09_Right_r1.eq_1
theorem e_ref09_Right_r2 : type_of% f_ref09_Right_r2.eq_1 := by_rfl f_ref09_Right_r2.eq_1
theorem e_ref09_Right_r3 : type_of% f_ref09_Right_r3.eq_1 := by_rfl f_ref09_Right_r3.eq_1
theorem e_ref09_Right_r4 : type_of% f_ref09_Right_r4.eq_1 := by_rfl f_ref09_Right_r4.eq_1
theorem e_ref09_Right_r5 : type_of% f_ref09_Right_r5.eq_1 := by_rfl f_ref09_Right_r5.eq_1
theorem e_ref09_Right_r6 : type_of% f_ref09_Right_r6.eq_1 := by_rfl f_ref09_Right_r6.eq_1
theorem e_ref09_Right_r7 : type_of% f_ref09_Right_r7.eq_1 := by_rfl f_ref09_Right_r7.eq_1
theorem e_ref09_Right_l8 : type_of% f_ref09_Right_l8.eq_1 := by_rfl f_ref09_Right_l8.eq_1
theorem e_ref09_Right_r9 : type_of% f_ref09_Right_r9.eq_1 := by_rfl f_ref09_Right_r9.eq_1
theorem e_ref09_Right_r10 : type_of% f_ref09_Right_r10.eq_1 := by_rfl f_ref09_Right_r10.eq_1
theorem e_ref09_Right_r11 : type_of% f_ref09_Right_r11.eq_1 := by_rfl f_ref09_Right_r11.eq_1
theorem e_ref09_Right_r12 : type_of% f_ref09_Right_r12.eq_1 := by_rfl f_ref09_Right_r12.eq_1
theorem e_ref09_Right_r13 : type_of% f_ref09_Right_r13.eq_1 := by_rfl f_ref09_Right_r13.eq_1
theorem e_ref09_Right_l14 : type_of% f_ref09_Right_l14.eq_1 := by_rfl f_ref09_Right_l14.eq_1
theorem e_ref09_Right_r15 : type_of% f_ref09_Right_r15.eq_1 := by_rfl f_ref09_Right_r15.eq_1
theorem e_ref09_Right : type_of% f_ref09_Right.eq_1 := by_rfl f_ref09_Right.eq_1
theorem ok_ref09_Right : fnC Try.prog a_ref09_Right Try.f27 = some f_ref09_Right := by kernel_rfl

end Go.Proofs.Yticpenoicajakaa
