/- The code of functions of the program, in the small instruction set; each is what the translation makes of it. -/
import Derived.Test.YtcjjdaifpboaaaaIds
set_option linter.unusedVariables false
set_option maxRecDepth 100000
namespace Go.Proofs.Ytcjjdaifpboaaaa
open Go Go.Abs
/-! 3 fumarole/fumarolelaw04.TrialCurves -/
def f_law04_TrialCurves_r0 : List Abs.Op := [
  ⟨some 2, none, false, .boxi (.t 0)⟩,
  ⟨some 3, none, false, .boxi (.t 1)⟩,
  ⟨some 4, none, false, .mv (.c (.bool false))⟩]

def f_law04_TrialCurves_r1 : List Abs.Op := [
  ⟨some 15, none, false, .fadr 6 (.t 2)⟩,
  ⟨some 16, none, false, .ld false 1 (.t 15)⟩,
  ⟨some 17, none, false, .lenS (.t 16)⟩,
  ⟨some 18, none, false, .bin .gtr (.t 17) (.c (.int .i64 20))⟩]

def f_law04_TrialCurves_r2 : List Abs.Op := [
  ⟨some 19, none, false, .call false (.c (.fn i_law04_wakes [] [])) []⟩,
  ⟨some 4, none, false, .mv (.t 19)⟩]

def f_law04_TrialCurves_r3 : List Abs.Op := [
  ⟨some 20, none, true, .ld true 7 (.t 2)⟩,
  ⟨some 21, none, true, .call false (.c (.fn i_law04_Test [] [])) [(.t 20)]⟩,
  ⟨some 22, none, true, .call false (.c (.fn i_trial_CheckTest [] [])) [(.t 21)]⟩,
  ⟨some 23, none, true, .ld true 7 (.t 2)⟩,
  ⟨some 24, none, false, .call false (.c (.fn i_ref04_TestFault [] [])) [(.t 23)]⟩,
  ⟨some 25, none, false, .bin .neq (.t 22) (.t 24)⟩]

def f_law04_TrialCurves_r4 : List Abs.Op := [
  ⟨some 4, none, false, .mv (.c (.bool false))⟩]

def f_law04_TrialCurves_r5 : List Abs.Op := [
  ⟨some 26, none, true, .ld true 7 (.t 2)⟩,
  ⟨some 27, none, true, .call false (.c (.fn i_law04_Test [] [])) [(.t 26)]⟩,
  ⟨some 28, none, true, .fadr 0 (.t 3)⟩,
  ⟨some 29, none, true, .ld false 1 (.t 28)⟩,
  ⟨some 30, none, true, .fadr 1 (.t 3)⟩,
  ⟨some 31, none, true, .ld false 1 (.t 30)⟩,
  ⟨some 32, none, true, .fadr 2 (.t 3)⟩,
  ⟨some 33, none, true, .ld false 1 (.t 32)⟩,
  ⟨some 34, none, true, .bld [(.int .i64 0), (.int .i64 0), (.int .i64 0)] [(0, 1, (.t 29)), (1, 1, (.t 31)), (2, 1, (.t 33))]⟩,
  ⟨some 35, none, true, .call false (.c (.fn i_trial_Agrees [] [])) [(.t 27), (.t 34)]⟩,
  ⟨some 36, none, true, .ld true 7 (.t 2)⟩,
  ⟨some 37, none, true, .call false (.c (.fn i_ref04_TestFault [] [])) [(.t 36)]⟩,
  ⟨some 38, none, true, .bin .eql (.t 37) (.c (.int .i64 0))⟩,
  ⟨some 39, none, true, .mv (.t 38)⟩,
  ⟨some 40, some (39, true), true, .ld true 7 (.t 2)⟩,
  ⟨some 41, some (39, true), true, .ld true 3 (.t 3)⟩,
  ⟨some 42, some (39, true), false, .call false (.c (.fn i_ref04_Agrees [] [])) [(.t 40), (.t 41)]⟩,
  ⟨some 43, none, false, .pick (.t 39) (.t 42) (.c (.bool false))⟩,
  ⟨some 44, none, false, .eqv false [none] true (.t 35) (.t 43)⟩]

def f_law04_TrialCurves_r6 : List Abs.Op := [
  ⟨some 4, none, false, .mv (.c (.bool false))⟩]

def f_law04_TrialCurves_r7 : List Abs.Op := [
  ⟨some 46, none, false, .ld true 7 (.t 2)⟩,
  ⟨some 47, none, false, .call false (.c (.fn i_law04_Test [] [])) [(.t 46)]⟩,
  ⟨some 48, none, false, .call false (.c (.fn i_trial_Curves [] [])) [(.t 47)]⟩,
  ⟨some 45, none, false, .mv (.t 48)⟩,
  ⟨some 49, none, false, .ext (.t 45) 0⟩,
  ⟨some 50, none, false, .ext (.t 45) 1⟩,
  ⟨some 51, none, false, .ext (.t 45) 2⟩,
  ⟨some 52, none, false, .ext (.t 45) 3⟩,
  ⟨some 53, none, false, .ext (.t 45) 4⟩,
  ⟨some 6, none, false, .alcv [] [(.int .i64 0), (.int .i64 0)]⟩,
  ⟨some 7, none, false, .alcv [] [(.int .i64 0), (.int .i64 0)]⟩,
  ⟨some 8, none, false, .alcv [] [(.int .i64 0), (.int .i64 0)]⟩,
  ⟨some 5, none, false, .mv (.t 49)⟩,
  ⟨none, none, false, .stv 6 [] 2 6 (.t 50)⟩,
  ⟨none, none, false, .stv 7 [] 2 7 (.t 51)⟩,
  ⟨none, none, false, .stv 8 [] 2 8 (.t 52)⟩,
  ⟨some 9, none, false, .mv (.t 53)⟩]

def f_law04_TrialCurves_r8 : List Abs.Op := [
  ⟨some 54, none, false, .ld true 7 (.t 2)⟩,
  ⟨some 55, none, false, .call false (.c (.fn i_law04_asked [] [])) [(.t 54), (.c (.bool false)), (.c (.int .i64 0))]⟩,
  ⟨some 10, none, false, .mv (.t 55)⟩]

def f_law04_TrialCurves_r9 : List Abs.Op := [
  ⟨some 56, none, false, .mv (.t 10)⟩,
  ⟨some 57, none, false, .bin .neq (.t 56) (.c (.int .i64 0))⟩]

def f_law04_TrialCurves_r10 : List Abs.Op := [
  ⟨some 58, none, false, .mv (.t 9)⟩,
  ⟨some 59, none, false, .mv (.t 10)⟩,
  ⟨some 60, none, false, .bin .eql (.t 58) (.t 59)⟩,
  ⟨some 61, none, false, .mv (.t 60)⟩,
  ⟨some 62, some (61, true), false, .mv (.t 5)⟩,
  ⟨some 63, some (61, true), false, .bin .eql (.t 62) (.c (.int .i64 0))⟩,
  ⟨some 64, none, false, .pick (.t 61) (.t 63) (.c (.bool false))⟩,
  ⟨some 65, none, false, .mv (.t 64)⟩,
  ⟨some 66, some (65, true), false, .ldv 6 true 2 6⟩,
  ⟨some 67, some (65, true), false, .bld [(.int .i64 0), (.int .i64 0)] []⟩,
  ⟨some 68, some (65, true), false, .eqv true [some .i64, some .i64] false (.t 66) (.t 67)⟩,
  ⟨some 69, none, false, .pick (.t 65) (.t 68) (.c (.bool false))⟩,
  ⟨some 70, none, false, .mv (.t 69)⟩,
  ⟨some 71, some (70, true), false, .ldv 7 true 2 7⟩,
  ⟨some 72, some (70, true), false, .bld [(.int .i64 0), (.int .i64 0)] []⟩,
  ⟨some 73, some (70, true), false, .eqv true [some .i64, some .i64] false (.t 71) (.t 72)⟩,
  ⟨some 74, none, false, .pick (.t 70) (.t 73) (.c (.bool false))⟩,
  ⟨some 75, none, false, .mv (.t 74)⟩,
  ⟨some 76, some (75, true), false, .ldv 8 true 2 8⟩,
  ⟨some 77, some (75, true), false, .bld [(.int .i64 0), (.int .i64 0)] []⟩,
  ⟨some 78, some (75, true), false, .eqv true [some .i64, some .i64] false (.t 76) (.t 77)⟩,
  ⟨some 79, none, false, .pick (.t 75) (.t 78) (.c (.bool false))⟩,
  ⟨some 80, none, false, .mv (.t 79)⟩,
  ⟨some 81, some (80, true), false, .call false (.c (.fn i_law04_wakes [] [])) []⟩,
  ⟨some 82, none, false, .pick (.t 80) (.t 81) (.c (.bool false))⟩,
  ⟨some 4, none, false, .mv (.t 82)⟩]

def f_law04_TrialCurves_r11 : List Abs.Op := [
  ⟨some 84, none, false, .ld true 7 (.t 2)⟩,
  ⟨some 85, none, false, .call false (.c (.fn i_ref04_Curves [] [])) [(.t 84)]⟩,
  ⟨some 83, none, false, .mv (.t 85)⟩,
  ⟨some 86, none, false, .ext (.t 83) 0⟩,
  ⟨some 87, none, false, .ext (.t 83) 1⟩,
  ⟨some 88, none, false, .ext (.t 83) 2⟩,
  ⟨some 89, none, false, .ext (.t 83) 3⟩,
  ⟨some 12, none, false, .alcv [] [(.int .i64 0), (.int .i64 0)]⟩,
  ⟨some 13, none, false, .alcv [] [(.int .i64 0), (.int .i64 0)]⟩,
  ⟨some 14, none, false, .alcv [] [(.int .i64 0), (.int .i64 0)]⟩,
  ⟨some 11, none, false, .mv (.t 86)⟩,
  ⟨none, none, false, .stv 12 [] 2 12 (.t 87)⟩,
  ⟨none, none, false, .stv 13 [] 2 13 (.t 88)⟩,
  ⟨none, none, false, .stv 14 [] 2 14 (.t 89)⟩]

def f_law04_TrialCurves_r12 : List Abs.Op := [
  ⟨some 90, none, true, .mv (.t 9)⟩,
  ⟨some 91, none, true, .bin .eql (.t 90) (.c (.int .i64 0))⟩,
  ⟨some 92, none, true, .mv (.t 91)⟩,
  ⟨some 93, some (92, true), true, .mv (.t 5)⟩,
  ⟨some 94, some (92, true), true, .mv (.t 11)⟩,
  ⟨some 95, some (92, true), true, .bin .eql (.t 93) (.t 94)⟩,
  ⟨some 96, none, true, .pick (.t 92) (.t 95) (.c (.bool false))⟩,
  ⟨some 97, none, true, .mv (.t 96)⟩,
  ⟨some 98, some (97, true), true, .ldv 6 true 2 6⟩,
  ⟨some 99, some (97, true), true, .ldv 12 true 2 12⟩,
  ⟨some 100, some (97, true), true, .call false (.c (.fn i_law04_Range [] [])) [(.t 99)]⟩,
  ⟨some 101, some (97, true), true, .eqv true [some .i64, some .i64] false (.t 98) (.t 100)⟩,
  ⟨some 102, none, true, .pick (.t 97) (.t 101) (.c (.bool false))⟩,
  ⟨some 103, none, true, .mv (.t 102)⟩,
  ⟨some 104, some (103, true), true, .ldv 7 true 2 7⟩,
  ⟨some 105, some (103, true), true, .ldv 13 true 2 13⟩,
  ⟨some 106, some (103, true), true, .call false (.c (.fn i_law04_Range [] [])) [(.t 105)]⟩,
  ⟨some 107, some (103, true), true, .eqv true [some .i64, some .i64] false (.t 104) (.t 106)⟩,
  ⟨some 108, none, true, .pick (.t 103) (.t 107) (.c (.bool false))⟩,
  ⟨some 109, none, true, .mv (.t 108)⟩,
  ⟨some 110, some (109, true), true, .ldv 8 true 2 8⟩,
  ⟨some 111, some (109, true), true, .ldv 14 true 2 14⟩,
  ⟨some 112, some (109, true), true, .call false (.c (.fn i_law04_Range [] [])) [(.t 111)]⟩,
  ⟨some 113, some (109, true), false, .eqv true [some .i64, some .i64] false (.t 110) (.t 112)⟩,
  ⟨some 114, none, false, .pick (.t 109) (.t 113) (.c (.bool false))⟩,
  ⟨some 115, none, false, .mv (.t 114)⟩,
  ⟨some 116, some (115, true), false, .call false (.c (.fn i_law04_wakes [] [])) []⟩,
  ⟨some 117, none, false, .pick (.t 115) (.t 116) (.c (.bool false))⟩,
  ⟨some 4, none, false, .mv (.t 117)⟩]

def a_law04_TrialCurves : Ann := ⟨[(12, [4]), (11, [5, 6, 7, 8, 9, 11, 12, 13, 14]), (10, [4]), (9, [2, 5, 6, 7, 8, 9, 10, 57]), (8, [2, 5, 6, 7, 8, 9, 10]), (7, [2, 5, 6, 7, 8, 9]), (6, [4]), (5, [2, 44]), (4, [4]), (3, [2, 3, 25]), (2, [4]), (1, [2, 3, 18]), (0, [2, 3])], [], [], [6, 7, 8, 12, 13, 14], [6, 7, 8, 12, 13, 14], [], [], [], [], []⟩
def f_law04_TrialCurves : Abs.Fn := ⟨2, [.t 4],
  (.seq (.reg [2, 3] f_law04_TrialCurves_r0) (.seq (.seq (.reg [2, 3, 18] f_law04_TrialCurves_r1) (.ite (.t 18) (.seq (.reg [4] f_law04_TrialCurves_r2) .ret) .nop)) (.seq (.seq (.reg [2, 3, 25] f_law04_TrialCurves_r3) (.ite (.t 25) (.seq (.reg [4] f_law04_TrialCurves_r4) .ret) .nop)) (.seq (.seq (.reg [2, 44] f_law04_TrialCurves_r5) (.ite (.t 44) (.seq (.reg [4] f_law04_TrialCurves_r6) .ret) .nop)) (.seq (.reg [2, 5, 6, 7, 8, 9] f_law04_TrialCurves_r7) (.seq (.seq (.reg [2, 5, 6, 7, 8, 9, 10] f_law04_TrialCurves_r8) (.seq (.reg [2, 5, 6, 7, 8, 9, 10, 57] f_law04_TrialCurves_r9) (.ite (.t 57) (.seq (.reg [4] f_law04_TrialCurves_r10) .ret) .nop))) (.seq (.reg [5, 6, 7, 8, 9, 11, 12, 13, 14] f_law04_TrialCurves_r11) (.seq (.reg [4] f_law04_TrialCurves_r12) .ret))))))))⟩

theorem e_law04_TrialCurves_r0 : type_of% f_law04_TrialCurves_r0.eq_1 := by_rfl f_law04_TrialCurves_r0.eq_1
theorem e_law04_TrialCurves_r1 : type_of% f_law04_TrialCurves_r1.eq_1 := by_rfl f_law04_TrialCurves_r1.eq_1
theorem e_law04_TrialCurves_r2 : type_of% f_law04_TrialCurves_r2.eq_1 := by_rfl f_law04_TrialCurves_r2.eq_1
theorem e_law04_TrialCurves_r3 : type_of% f_law04_TrialCurves_r3.eq_1 := by_rfl f_law04_TrialCurves_r3.eq_1
theorem e_law04_TrialCurves_r4 : type_of% f_law04_TrialCurves_r4.eq_1 := by_rfl f_law04_TrialCurves_r4.eq_1
theorem e_law04_TrialCurves_r5 : type_of% f_law04_TrialCurves_r5.eq_1 := by_rfl f_law04_TrialCurves_r5.eq_1
theorem e_law04_TrialCurves_r6 : type_of% f_law04_TrialCurves_r6.eq_1 := by_rfl f_law04_TrialCurves_r6.eq_1
theorem e_law04_TrialCurves_r7 : type_of% f_law04_TrialCurves_r7.eq_1 := by_rfl f_law04_TrialCurves_r7.eq_1
theorem e_law04_TrialCurves_r8 : type_of% f_law04_TrialCurves_r8.eq_1 := by_rfl f_law04_TrialCurves_r8.eq_1
theorem e_law04_TrialCurves_r9 : type_of% f_law04_TrialCurves_r9.eq_1 := by_rfl f_law04_TrialCurves_r9.eq_1
theorem e_law04_TrialCurves_r10 : type_of% f_law04_TrialCurves_r10.eq_1 := by_rfl f_law04_TrialCurves_r10.eq_1
theorem e_law04_TrialCurves_r11 : type_of% f_law04_TrialCurves_r11.eq_1 := by_rfl f_law04_TrialCurves_r11.eq_1
theorem e_law04_TrialCurves_r12 : type_of% f_law04_TrialCurves_r12.eq_1 := by_rfl f_law04_TrialCurves_r12.eq_1
theorem e_law04_TrialCurves : type_of% f_law04_TrialCurves.eq_1 := by_rfl f_law04_TrialCurves.eq_1
theorem ok_law04_TrialCurves : fnC Try.prog a_law04_TrialCurves Try.f3 = some f_law04_TrialCurves := by kernel_rfl

/-! 4 fumarole/fumarolelaw04.TrialKept -/
def f_law04_TrialKept_r0 : List Abs.Op := [
  ⟨some 3, none, false, .boxi (.t 0)⟩,
  ⟨some 4, none, false, .boxi (.t 1)⟩,
  ⟨some 6, none, false, .mv (.c (.bool false))⟩]

def f_law04_TrialKept_r1 : List Abs.Op := [
  ⟨some 27, none, false, .fadr 6 (.t 3)⟩,
  ⟨some 28, none, false, .ld false 1 (.t 27)⟩,
  ⟨some 29, none, false, .lenS (.t 28)⟩,
  ⟨some 30, none, false, .bin .gtr (.t 29) (.c (.int .i64 12))⟩,
  ⟨some 31, none, false, .mv (.t 30)⟩,
  ⟨some 32, some (31, false), false, .fadr 0 (.t 4)⟩,
  ⟨some 33, some (31, false), false, .ld false 1 (.t 32)⟩,
  ⟨some 34, some (31, false), false, .call false (.c (.fn i_ref04_In [] [])) [(.t 33), (.c (.int .i64 0)), (.c (.int .i64 100000))]⟩,
  ⟨some 35, some (31, false), false, .un .not (.t 34)⟩,
  ⟨some 36, none, false, .pick (.t 31) (.c (.bool true)) (.t 35)⟩,
  ⟨some 37, none, false, .mv (.t 36)⟩,
  ⟨some 38, some (37, false), false, .fadr 1 (.t 4)⟩,
  ⟨some 39, some (37, false), false, .ld false 1 (.t 38)⟩,
  ⟨some 40, some (37, false), false, .call false (.c (.fn i_ref04_In [] [])) [(.t 39), (.c (.int .i64 0)), (.c (.int .i64 10000))]⟩,
  ⟨some 41, some (37, false), false, .un .not (.t 40)⟩,
  ⟨some 42, none, false, .pick (.t 37) (.c (.bool true)) (.t 41)⟩,
  ⟨some 43, none, false, .mv (.t 42)⟩,
  ⟨some 44, some (43, false), false, .fadr 2 (.t 4)⟩,
  ⟨some 45, some (43, false), false, .ld false 1 (.t 44)⟩,
  ⟨some 46, some (43, false), false, .call false (.c (.fn i_ref04_In [] [])) [(.t 45), (.c (.int .i64 0)), (.c (.int .i64 1000))]⟩,
  ⟨some 47, some (43, false), false, .un .not (.t 46)⟩,
  ⟨some 48, none, false, .pick (.t 43) (.c (.bool true)) (.t 47)⟩]

def f_law04_TrialKept_r2 : List Abs.Op := [
  ⟨some 49, none, false, .call false (.c (.fn i_law04_wakes [] [])) []⟩,
  ⟨some 6, none, false, .mv (.t 49)⟩]

def f_law04_TrialKept_r3 : List Abs.Op := [
  ⟨some 7, none, false, .mv (.c (.int .i64 0))⟩]

def f_law04_TrialKept_r4 : List Abs.Op := [
  ⟨some 50, none, false, .mv (.t 7)⟩,
  ⟨some 51, none, false, .fadr 6 (.t 3)⟩,
  ⟨some 52, none, false, .ld false 1 (.t 51)⟩,
  ⟨some 53, none, false, .lenS (.t 52)⟩,
  ⟨some 54, none, false, .bin .lss (.t 50) (.t 53)⟩]

def f_law04_TrialKept_r5 : List Abs.Op := [
  ⟨some 57, none, false, .fadr 6 (.t 3)⟩,
  ⟨some 58, none, false, .ld false 1 (.t 57)⟩,
  ⟨some 59, none, false, .mv (.t 7)⟩,
  ⟨some 60, none, false, .idxS 3 (.t 58) (.t 59)⟩,
  ⟨some 61, none, false, .ld true 3 (.t 60)⟩,
  ⟨some 8, none, false, .alcv [] [(.int .i64 0), (.int .i64 0), (.int .i64 0)]⟩,
  ⟨none, none, false, .stv 8 [] 3 8 (.t 61)⟩]

def f_law04_TrialKept_r6 : List Abs.Op := [
  ⟨some 62, none, false, .fadr 0 (.t 8)⟩,
  ⟨some 63, none, false, .ldv 8 false 1 62⟩,
  ⟨some 64, none, false, .call false (.c (.fn i_ref04_In [] [])) [(.t 63), (.c (.int .i64 0)), (.c (.int .i64 1000))]⟩,
  ⟨some 65, none, false, .un .not (.t 64)⟩,
  ⟨some 66, none, false, .mv (.t 65)⟩,
  ⟨some 67, some (66, false), false, .fadr 1 (.t 8)⟩,
  ⟨some 68, some (66, false), false, .fadr 0 (.t 67)⟩,
  ⟨some 69, some (66, false), false, .ldv 8 false 1 68⟩,
  ⟨some 70, some (66, false), false, .call false (.c (.fn i_ref04_In [] [])) [(.t 69), (.c (.int .i64 0)), (.c (.int .i64 1000))]⟩,
  ⟨some 71, some (66, false), false, .un .not (.t 70)⟩,
  ⟨some 72, none, false, .pick (.t 66) (.c (.bool true)) (.t 71)⟩,
  ⟨some 73, none, false, .mv (.t 72)⟩,
  ⟨some 74, some (73, false), false, .fadr 1 (.t 8)⟩,
  ⟨some 75, some (73, false), false, .fadr 1 (.t 74)⟩,
  ⟨some 76, some (73, false), false, .ldv 8 false 1 75⟩,
  ⟨some 77, some (73, false), false, .call false (.c (.fn i_ref04_In [] [])) [(.t 76), (.c (.int .i64 0)), (.c (.int .i64 1000))]⟩,
  ⟨some 78, some (73, false), false, .un .not (.t 77)⟩,
  ⟨some 79, none, false, .pick (.t 73) (.c (.bool true)) (.t 78)⟩]

def f_law04_TrialKept_r7 : List Abs.Op := [
  ⟨some 80, none, false, .call false (.c (.fn i_law04_wakes [] [])) []⟩,
  ⟨some 6, none, false, .mv (.t 80)⟩]

def f_law04_TrialKept_r8 : List Abs.Op := [
  ⟨some 55, none, false, .mv (.t 7)⟩,
  ⟨some 56, none, false, .bin .add (.t 55) (.c (.int .i64 1))⟩,
  ⟨some 7, none, false, .mv (.t 56)⟩]

def f_law04_TrialKept_l9 : Abs.Cmd :=
  (.seq (.seq (.reg [2, 3, 4, 7, 54] f_law04_TrialKept_r4) (.ite (.t 54) .nop (.exit 0))) (.seq (.blk 1 (.seq (.reg [2, 3, 4, 7, 8] f_law04_TrialKept_r5) (.seq (.reg [2, 3, 4, 7, 79] f_law04_TrialKept_r6) (.ite (.t 79) (.seq (.reg [6] f_law04_TrialKept_r7) .ret) .nop)))) (.reg [2, 3, 4, 7] f_law04_TrialKept_r8)))

def f_law04_TrialKept_r10 : List Abs.Op := [
  ⟨some 81, none, false, .fadr 0 (.t 3)⟩,
  ⟨some 82, none, false, .ld true 2 (.t 81)⟩,
  ⟨some 83, none, false, .call false (.c (.fn i_ref04_Right [] [])) [(.t 82), (.c (.int .i64 0)), (.c (.int .i64 100000))]⟩,
  ⟨some 84, none, false, .un .not (.t 83)⟩,
  ⟨some 85, none, false, .mv (.t 84)⟩,
  ⟨some 86, some (85, false), false, .fadr 2 (.t 3)⟩,
  ⟨some 87, some (85, false), false, .ld true 2 (.t 86)⟩,
  ⟨some 88, some (85, false), false, .call false (.c (.fn i_ref04_Right [] [])) [(.t 87), (.c (.int .i64 0)), (.c (.int .i64 10000))]⟩,
  ⟨some 89, some (85, false), false, .un .not (.t 88)⟩,
  ⟨some 90, none, false, .pick (.t 85) (.c (.bool true)) (.t 89)⟩,
  ⟨some 91, none, false, .mv (.t 90)⟩,
  ⟨some 92, some (91, false), false, .fadr 4 (.t 3)⟩,
  ⟨some 93, some (91, false), false, .ld true 2 (.t 92)⟩,
  ⟨some 94, some (91, false), false, .call false (.c (.fn i_ref04_Right [] [])) [(.t 93), (.c (.int .i64 0)), (.c (.int .i64 1000))]⟩,
  ⟨some 95, some (91, false), false, .un .not (.t 94)⟩,
  ⟨some 96, none, false, .pick (.t 91) (.c (.bool true)) (.t 95)⟩,
  ⟨some 97, none, false, .mv (.t 96)⟩,
  ⟨some 98, some (97, false), false, .fadr 2 (.t 3)⟩,
  ⟨some 99, some (97, false), false, .fadr 1 (.t 98)⟩,
  ⟨some 100, some (97, false), false, .ld false 1 (.t 99)⟩,
  ⟨some 101, some (97, false), false, .fadr 2 (.t 3)⟩,
  ⟨some 102, some (97, false), false, .fadr 0 (.t 101)⟩,
  ⟨some 103, some (97, false), false, .ld false 1 (.t 102)⟩,
  ⟨some 104, some (97, false), false, .bin .sub (.t 100) (.t 103)⟩,
  ⟨some 105, some (97, false), false, .bin .gtr (.t 104) (.c (.int .i64 39))⟩,
  ⟨some 106, none, false, .pick (.t 97) (.c (.bool true)) (.t 105)⟩,
  ⟨some 107, none, false, .mv (.t 106)⟩,
  ⟨some 108, some (107, false), false, .fadr 4 (.t 3)⟩,
  ⟨some 109, some (107, false), false, .fadr 1 (.t 108)⟩,
  ⟨some 110, some (107, false), false, .ld false 1 (.t 109)⟩,
  ⟨some 111, some (107, false), false, .fadr 4 (.t 3)⟩,
  ⟨some 112, some (107, false), false, .fadr 0 (.t 111)⟩,
  ⟨some 113, some (107, false), false, .ld false 1 (.t 112)⟩,
  ⟨some 114, some (107, false), false, .bin .sub (.t 110) (.t 113)⟩,
  ⟨some 115, some (107, false), false, .bin .gtr (.t 114) (.c (.int .i64 39))⟩,
  ⟨some 116, none, false, .pick (.t 107) (.c (.bool true)) (.t 115)⟩,
  ⟨some 117, none, false, .mv (.t 116)⟩,
  ⟨some 118, some (117, false), false, .fadr 0 (.t 3)⟩,
  ⟨some 119, some (117, false), false, .ld true 2 (.t 118)⟩,
  ⟨some 120, some (117, false), false, .fadr 2 (.t 3)⟩,
  ⟨some 121, some (117, false), false, .ld true 2 (.t 120)⟩,
  ⟨some 122, some (117, false), false, .fadr 4 (.t 3)⟩,
  ⟨some 123, some (117, false), false, .ld true 2 (.t 122)⟩,
  ⟨some 124, some (117, false), false, .bld [(.int .i64 0), (.int .i64 0), (.int .i64 0), (.int .i64 0), (.int .i64 0), (.int .i64 0), .nils] [(0, 2, (.t 119)), (2, 2, (.t 121)), (4, 2, (.t 123))]⟩,
  ⟨some 125, some (117, false), false, .ld true 3 (.t 4)⟩,
  ⟨some 126, some (117, false), false, .call false (.c (.fn i_ref04_Agrees [] [])) [(.t 124), (.t 125)]⟩,
  ⟨some 127, some (117, false), false, .un .not (.t 126)⟩,
  ⟨some 128, none, false, .pick (.t 117) (.c (.bool true)) (.t 127)⟩]

def f_law04_TrialKept_r11 : List Abs.Op := [
  ⟨some 129, none, false, .call false (.c (.fn i_law04_wakes [] [])) []⟩,
  ⟨some 6, none, false, .mv (.t 129)⟩]

def f_law04_TrialKept_r12 : List Abs.Op := [
  ⟨some 130, none, false, .fadr 0 (.t 4)⟩,
  ⟨some 131, none, false, .ld false 1 (.t 130)⟩,
  ⟨some 132, none, false, .fadr 1 (.t 4)⟩,
  ⟨some 133, none, false, .ld false 1 (.t 132)⟩,
  ⟨some 134, none, false, .fadr 2 (.t 4)⟩,
  ⟨some 135, none, false, .ld false 1 (.t 134)⟩,
  ⟨some 136, none, false, .bld [(.int .i64 0), (.int .i64 0), (.int .i64 0)] [(0, 1, (.t 131)), (1, 1, (.t 133)), (2, 1, (.t 135))]⟩,
  ⟨some 9, none, false, .alcv [] [(.int .i64 0), (.int .i64 0), (.int .i64 0)]⟩,
  ⟨none, none, false, .stv 9 [] 3 9 (.t 136)⟩]

def f_law04_TrialKept_r13 : List Abs.Op := [
  ⟨some 137, none, false, .ld true 7 (.t 3)⟩,
  ⟨some 138, none, false, .call true (.c (.fn i_law04_Test [] [])) [(.t 137)]⟩,
  ⟨some 10, none, false, .alcv [] [(.int .i64 0), (.int .i64 0), (.int .i64 0), (.int .i64 0), (.int .i64 0), (.int .i64 0), .nils]⟩,
  ⟨none, none, false, .stv 10 [] 7 10 (.t 138)⟩]

def f_law04_TrialKept_r14 : List Abs.Op := [
  ⟨some 11, none, false, .mv (.c (.int .i64 0))⟩]

def f_law04_TrialKept_r15 : List Abs.Op := [
  ⟨some 139, none, false, .mv (.t 11)⟩,
  ⟨some 140, none, false, .fadr 6 (.t 3)⟩,
  ⟨some 141, none, false, .ld false 1 (.t 140)⟩,
  ⟨some 142, none, false, .lenS (.t 141)⟩,
  ⟨some 143, none, false, .bin .lss (.t 139) (.t 142)⟩]

def f_law04_TrialKept_r16 : List Abs.Op := [
  ⟨some 146, none, true, .ld true 3 (.t 4)⟩,
  ⟨some 147, none, true, .fadr 6 (.t 3)⟩,
  ⟨some 148, none, true, .ld false 1 (.t 147)⟩,
  ⟨some 149, none, true, .mv (.t 11)⟩,
  ⟨some 150, none, true, .idxS 3 (.t 148) (.t 149)⟩,
  ⟨some 151, none, true, .fadr 0 (.t 150)⟩,
  ⟨some 152, none, true, .ld false 1 (.t 151)⟩,
  ⟨some 153, none, false, .call false (.c (.fn i_ref04_Drop [] [])) [(.t 146), (.t 152)]⟩,
  ⟨some 12, none, false, .mv (.t 153)⟩]

def f_law04_TrialKept_r17 : List Abs.Op := [
  ⟨some 154, none, true, .fadr 6 (.t 10)⟩,
  ⟨some 155, none, true, .ldv 10 false 1 154⟩,
  ⟨some 156, none, true, .mv (.t 11)⟩,
  ⟨some 157, none, true, .mv (.t 12)⟩,
  ⟨some 158, none, true, .fadr 6 (.t 3)⟩,
  ⟨some 159, none, true, .ld false 1 (.t 158)⟩,
  ⟨some 160, none, true, .mv (.t 11)⟩,
  ⟨some 161, none, true, .idxS 3 (.t 159) (.t 160)⟩,
  ⟨some 162, none, true, .fadr 1 (.t 161)⟩,
  ⟨some 163, none, true, .fadr 0 (.t 162)⟩,
  ⟨some 164, none, true, .ld false 1 (.t 163)⟩,
  ⟨some 165, none, true, .bin .sub (.t 157) (.t 164)⟩,
  ⟨some 166, none, true, .mv (.t 12)⟩,
  ⟨some 167, none, true, .fadr 6 (.t 3)⟩,
  ⟨some 168, none, true, .ld false 1 (.t 167)⟩,
  ⟨some 169, none, true, .mv (.t 11)⟩,
  ⟨some 170, none, true, .idxS 3 (.t 168) (.t 169)⟩,
  ⟨some 171, none, true, .fadr 1 (.t 170)⟩,
  ⟨some 172, none, true, .fadr 1 (.t 171)⟩,
  ⟨some 173, none, true, .ld false 1 (.t 172)⟩,
  ⟨some 174, none, true, .bin .add (.t 166) (.t 173)⟩,
  ⟨some 175, none, true, .bld [(.int .i64 0), (.int .i64 0)] [(0, 1, (.t 165)), (1, 1, (.t 174))]⟩,
  ⟨some 176, none, false, .idxS 3 (.t 155) (.t 156)⟩,
  ⟨some 177, none, false, .fadr 1 (.t 176)⟩,
  ⟨none, none, false, .st [] 2 (.t 177) (.t 175)⟩]

def f_law04_TrialKept_r18 : List Abs.Op := [
  ⟨some 144, none, false, .mv (.t 11)⟩,
  ⟨some 145, none, false, .bin .add (.t 144) (.c (.int .i64 1))⟩,
  ⟨some 11, none, false, .mv (.t 145)⟩]

def f_law04_TrialKept_l19 : Abs.Cmd :=
  (.seq (.seq (.reg [2, 3, 4, 9, 10, 11, 143] f_law04_TrialKept_r15) (.ite (.t 143) .nop (.exit 2))) (.seq (.blk 3 (.seq (.reg [2, 3, 4, 9, 10, 11, 12] f_law04_TrialKept_r16) (.reg [2, 3, 4, 9, 10, 11] f_law04_TrialKept_r17))) (.reg [2, 3, 4, 9, 10, 11] f_law04_TrialKept_r18)))

def f_law04_TrialKept_r20 : List Abs.Op := [
  ⟨some 178, none, false, .mv (.t 2)⟩,
  ⟨some 179, none, false, .cvt .i64 (.t 178)⟩,
  ⟨some 180, none, false, .bin .rem (.t 179) (.c (.int .i64 1001))⟩,
  ⟨some 13, none, false, .mv (.t 180)⟩]

def f_law04_TrialKept_r21 : List Abs.Op := [
  ⟨some 182, none, false, .ldv 10 true 7 10⟩,
  ⟨some 183, none, false, .call false (.c (.fn i_trial_Curves [] [])) [(.t 182)]⟩,
  ⟨some 181, none, false, .mv (.t 183)⟩,
  ⟨some 184, none, false, .ext (.t 181) 0⟩,
  ⟨some 185, none, false, .ext (.t 181) 1⟩,
  ⟨some 186, none, false, .ext (.t 181) 2⟩,
  ⟨some 187, none, false, .ext (.t 181) 3⟩,
  ⟨some 188, none, false, .ext (.t 181) 4⟩,
  ⟨some 15, none, false, .alcv [] [(.int .i64 0), (.int .i64 0)]⟩,
  ⟨some 16, none, false, .alcv [] [(.int .i64 0), (.int .i64 0)]⟩,
  ⟨some 17, none, false, .alcv [] [(.int .i64 0), (.int .i64 0)]⟩,
  ⟨some 14, none, false, .mv (.t 184)⟩,
  ⟨none, none, false, .stv 15 [] 2 15 (.t 185)⟩,
  ⟨none, none, false, .stv 16 [] 2 16 (.t 186)⟩,
  ⟨none, none, false, .stv 17 [] 2 17 (.t 187)⟩,
  ⟨some 18, none, false, .mv (.t 188)⟩]

def f_law04_TrialKept_r22 : List Abs.Op := [
  ⟨some 190, none, false, .ldv 10 true 7 10⟩,
  ⟨some 191, none, false, .mv (.t 13)⟩,
  ⟨some 192, none, false, .call false (.c (.fn i_trial_Drawdown [] [])) [(.t 190), (.t 191)]⟩,
  ⟨some 189, none, false, .mv (.t 192)⟩,
  ⟨some 193, none, false, .ext (.t 189) 0⟩,
  ⟨some 194, none, false, .ext (.t 189) 1⟩,
  ⟨some 19, none, false, .alcv [] [(.int .i64 0), (.int .i64 0)]⟩,
  ⟨none, none, false, .stv 19 [] 2 19 (.t 193)⟩,
  ⟨some 20, none, false, .mv (.t 194)⟩]

def f_law04_TrialKept_r23 : List Abs.Op := [
  ⟨some 195, none, false, .ld true 3 (.t 4)⟩,
  ⟨some 196, none, false, .mv (.t 13)⟩,
  ⟨some 197, none, false, .call false (.c (.fn i_ref04_Drop [] [])) [(.t 195), (.t 196)]⟩,
  ⟨some 21, none, false, .mv (.t 197)⟩]

def f_law04_TrialKept_r24 : List Abs.Op := [
  ⟨some 198, none, false, .ldv 10 true 7 10⟩,
  ⟨some 199, none, false, .ldv 9 true 3 9⟩,
  ⟨some 200, none, false, .call false (.c (.fn i_trial_Agrees [] [])) [(.t 198), (.t 199)]⟩,
  ⟨some 201, none, false, .un .not (.t 200)⟩,
  ⟨some 202, none, false, .mv (.t 201)⟩,
  ⟨some 203, some (202, false), false, .mv (.t 18)⟩,
  ⟨some 204, some (202, false), false, .bin .neq (.t 203) (.c (.int .i64 0))⟩,
  ⟨some 205, none, false, .pick (.t 202) (.c (.bool true)) (.t 204)⟩,
  ⟨some 206, none, false, .mv (.t 205)⟩,
  ⟨some 207, some (206, false), false, .mv (.t 20)⟩,
  ⟨some 208, some (206, false), false, .bin .neq (.t 207) (.c (.int .i64 0))⟩,
  ⟨some 209, none, false, .pick (.t 206) (.c (.bool true)) (.t 208)⟩,
  ⟨some 210, none, false, .mv (.t 209)⟩,
  ⟨some 211, some (210, false), false, .mv (.t 14)⟩,
  ⟨some 212, some (210, false), false, .bin .lss (.t 211) (.c (.int .i64 1))⟩,
  ⟨some 213, none, false, .pick (.t 210) (.c (.bool true)) (.t 212)⟩,
  ⟨some 214, none, false, .mv (.t 213)⟩,
  ⟨some 215, some (214, false), false, .fadr 0 (.t 4)⟩,
  ⟨some 216, some (214, false), false, .ld false 1 (.t 215)⟩,
  ⟨some 217, some (214, false), false, .fadr 0 (.t 15)⟩,
  ⟨some 218, some (214, false), false, .ldv 15 false 1 217⟩,
  ⟨some 219, some (214, false), false, .bin .lss (.t 216) (.t 218)⟩,
  ⟨some 220, none, false, .pick (.t 214) (.c (.bool true)) (.t 219)⟩,
  ⟨some 221, none, false, .mv (.t 220)⟩,
  ⟨some 222, some (221, false), false, .fadr 0 (.t 4)⟩,
  ⟨some 223, some (221, false), false, .ld false 1 (.t 222)⟩,
  ⟨some 224, some (221, false), false, .fadr 1 (.t 15)⟩,
  ⟨some 225, some (221, false), false, .ldv 15 false 1 224⟩,
  ⟨some 226, some (221, false), false, .bin .gtr (.t 223) (.t 225)⟩,
  ⟨some 227, none, false, .pick (.t 221) (.c (.bool true)) (.t 226)⟩,
  ⟨some 228, none, false, .mv (.t 227)⟩,
  ⟨some 229, some (228, false), false, .fadr 1 (.t 4)⟩,
  ⟨some 230, some (228, false), false, .ld false 1 (.t 229)⟩,
  ⟨some 231, some (228, false), false, .fadr 0 (.t 16)⟩,
  ⟨some 232, some (228, false), false, .ldv 16 false 1 231⟩,
  ⟨some 233, some (228, false), false, .bin .lss (.t 230) (.t 232)⟩,
  ⟨some 234, none, false, .pick (.t 228) (.c (.bool true)) (.t 233)⟩,
  ⟨some 235, none, false, .mv (.t 234)⟩,
  ⟨some 236, some (235, false), false, .fadr 1 (.t 4)⟩,
  ⟨some 237, some (235, false), false, .ld false 1 (.t 236)⟩,
  ⟨some 238, some (235, false), false, .fadr 1 (.t 16)⟩,
  ⟨some 239, some (235, false), false, .ldv 16 false 1 238⟩,
  ⟨some 240, some (235, false), false, .bin .gtr (.t 237) (.t 239)⟩,
  ⟨some 241, none, false, .pick (.t 235) (.c (.bool true)) (.t 240)⟩,
  ⟨some 242, none, false, .mv (.t 241)⟩,
  ⟨some 243, some (242, false), false, .fadr 2 (.t 4)⟩,
  ⟨some 244, some (242, false), false, .ld false 1 (.t 243)⟩,
  ⟨some 245, some (242, false), false, .fadr 0 (.t 17)⟩,
  ⟨some 246, some (242, false), false, .ldv 17 false 1 245⟩,
  ⟨some 247, some (242, false), false, .bin .lss (.t 244) (.t 246)⟩,
  ⟨some 248, none, false, .pick (.t 242) (.c (.bool true)) (.t 247)⟩,
  ⟨some 249, none, false, .mv (.t 248)⟩,
  ⟨some 250, some (249, false), false, .fadr 2 (.t 4)⟩,
  ⟨some 251, some (249, false), false, .ld false 1 (.t 250)⟩,
  ⟨some 252, some (249, false), false, .fadr 1 (.t 17)⟩,
  ⟨some 253, some (249, false), false, .ldv 17 false 1 252⟩,
  ⟨some 254, some (249, false), false, .bin .gtr (.t 251) (.t 253)⟩,
  ⟨some 255, none, false, .pick (.t 249) (.c (.bool true)) (.t 254)⟩,
  ⟨some 256, none, false, .mv (.t 255)⟩,
  ⟨some 257, some (256, false), false, .mv (.t 21)⟩,
  ⟨some 258, some (256, false), false, .fadr 0 (.t 19)⟩,
  ⟨some 259, some (256, false), false, .ldv 19 false 1 258⟩,
  ⟨some 260, some (256, false), false, .bin .lss (.t 257) (.t 259)⟩,
  ⟨some 261, none, false, .pick (.t 256) (.c (.bool true)) (.t 260)⟩,
  ⟨some 262, none, false, .mv (.t 261)⟩,
  ⟨some 263, some (262, false), false, .mv (.t 21)⟩,
  ⟨some 264, some (262, false), false, .fadr 1 (.t 19)⟩,
  ⟨some 265, some (262, false), false, .ldv 19 false 1 264⟩,
  ⟨some 266, some (262, false), false, .bin .gtr (.t 263) (.t 265)⟩,
  ⟨some 267, none, false, .pick (.t 262) (.c (.bool true)) (.t 266)⟩]

def f_law04_TrialKept_r25 : List Abs.Op := [
  ⟨some 6, none, false, .mv (.c (.bool false))⟩]

def f_law04_TrialKept_r26 : List Abs.Op := [
  ⟨some 268, none, false, .fadr 6 (.t 10)⟩,
  ⟨some 269, none, false, .ldv 10 false 1 268⟩,
  ⟨some 270, none, false, .lenS (.t 269)⟩,
  ⟨some 271, none, false, .bin .eql (.t 270) (.c (.int .i64 0))⟩]

def f_law04_TrialKept_r27 : List Abs.Op := [
  ⟨some 272, none, false, .call false (.c (.fn i_law04_wakes [] [])) []⟩,
  ⟨some 6, none, false, .mv (.t 272)⟩]

def f_law04_TrialKept_r28 : List Abs.Op := [
  ⟨some 273, none, false, .fadr 6 (.t 10)⟩,
  ⟨some 274, none, false, .ldv 10 false 1 273⟩,
  ⟨some 275, none, false, .fadr 6 (.t 10)⟩,
  ⟨some 276, none, false, .ldv 10 false 1 275⟩,
  ⟨some 277, none, false, .lenS (.t 276)⟩,
  ⟨some 278, none, false, .bin .sub (.t 277) (.c (.int .i64 1))⟩,
  ⟨some 279, none, false, .slc 3 (.t 274) none (some (.t 278)) none⟩,
  ⟨some 280, none, false, .fadr 6 (.t 10)⟩,
  ⟨none, none, false, .stv 10 [] 1 280 (.t 279)⟩]

def f_law04_TrialKept_r29 : List Abs.Op := [
  ⟨some 282, none, false, .ldv 10 true 7 10⟩,
  ⟨some 283, none, false, .call false (.c (.fn i_trial_Curves [] [])) [(.t 282)]⟩,
  ⟨some 281, none, false, .mv (.t 283)⟩,
  ⟨some 284, none, false, .ext (.t 281) 0⟩,
  ⟨some 285, none, false, .ext (.t 281) 1⟩,
  ⟨some 286, none, false, .ext (.t 281) 2⟩,
  ⟨some 287, none, false, .ext (.t 281) 3⟩,
  ⟨some 288, none, false, .ext (.t 281) 4⟩,
  ⟨some 23, none, false, .alcv [] [(.int .i64 0), (.int .i64 0)]⟩,
  ⟨some 24, none, false, .alcv [] [(.int .i64 0), (.int .i64 0)]⟩,
  ⟨some 25, none, false, .alcv [] [(.int .i64 0), (.int .i64 0)]⟩,
  ⟨some 22, none, false, .mv (.t 284)⟩,
  ⟨none, none, false, .stv 23 [] 2 23 (.t 285)⟩,
  ⟨none, none, false, .stv 24 [] 2 24 (.t 286)⟩,
  ⟨none, none, false, .stv 25 [] 2 25 (.t 287)⟩,
  ⟨some 18, none, false, .mv (.t 288)⟩]

def f_law04_TrialKept_r30 : List Abs.Op := [
  ⟨some 290, none, false, .ldv 10 true 7 10⟩,
  ⟨some 291, none, false, .mv (.t 13)⟩,
  ⟨some 292, none, false, .call false (.c (.fn i_trial_Drawdown [] [])) [(.t 290), (.t 291)]⟩,
  ⟨some 289, none, false, .mv (.t 292)⟩,
  ⟨some 293, none, false, .ext (.t 289) 0⟩,
  ⟨some 294, none, false, .ext (.t 289) 1⟩,
  ⟨some 26, none, false, .alcv [] [(.int .i64 0), (.int .i64 0)]⟩,
  ⟨none, none, false, .stv 26 [] 2 26 (.t 293)⟩,
  ⟨some 20, none, false, .mv (.t 294)⟩]

def f_law04_TrialKept_r31 : List Abs.Op := [
  ⟨some 295, none, false, .mv (.t 18)⟩,
  ⟨some 296, none, false, .bin .eql (.t 295) (.c (.int .i64 0))⟩,
  ⟨some 297, none, false, .mv (.t 296)⟩,
  ⟨some 298, some (297, true), false, .mv (.t 20)⟩,
  ⟨some 299, some (297, true), false, .bin .eql (.t 298) (.c (.int .i64 0))⟩,
  ⟨some 300, none, false, .pick (.t 297) (.t 299) (.c (.bool false))⟩,
  ⟨some 301, none, false, .mv (.t 300)⟩,
  ⟨some 302, some (301, true), false, .mv (.t 22)⟩,
  ⟨some 303, some (301, true), false, .mv (.t 14)⟩,
  ⟨some 304, some (301, true), false, .bin .geq (.t 302) (.t 303)⟩,
  ⟨some 305, none, false, .pick (.t 301) (.t 304) (.c (.bool false))⟩,
  ⟨some 306, none, false, .mv (.t 305)⟩,
  ⟨some 307, some (306, true), false, .fadr 0 (.t 23)⟩,
  ⟨some 308, some (306, true), false, .ldv 23 false 1 307⟩,
  ⟨some 309, some (306, true), false, .fadr 0 (.t 15)⟩,
  ⟨some 310, some (306, true), false, .ldv 15 false 1 309⟩,
  ⟨some 311, some (306, true), false, .bin .leq (.t 308) (.t 310)⟩,
  ⟨some 312, none, false, .pick (.t 306) (.t 311) (.c (.bool false))⟩,
  ⟨some 313, none, false, .mv (.t 312)⟩,
  ⟨some 314, some (313, true), false, .fadr 1 (.t 23)⟩,
  ⟨some 315, some (313, true), false, .ldv 23 false 1 314⟩,
  ⟨some 316, some (313, true), false, .fadr 1 (.t 15)⟩,
  ⟨some 317, some (313, true), false, .ldv 15 false 1 316⟩,
  ⟨some 318, some (313, true), false, .bin .geq (.t 315) (.t 317)⟩,
  ⟨some 319, none, false, .pick (.t 313) (.t 318) (.c (.bool false))⟩,
  ⟨some 320, none, false, .mv (.t 319)⟩,
  ⟨some 321, some (320, true), false, .fadr 0 (.t 24)⟩,
  ⟨some 322, some (320, true), false, .ldv 24 false 1 321⟩,
  ⟨some 323, some (320, true), false, .fadr 0 (.t 16)⟩,
  ⟨some 324, some (320, true), false, .ldv 16 false 1 323⟩,
  ⟨some 325, some (320, true), false, .bin .leq (.t 322) (.t 324)⟩,
  ⟨some 326, none, false, .pick (.t 320) (.t 325) (.c (.bool false))⟩,
  ⟨some 327, none, false, .mv (.t 326)⟩,
  ⟨some 328, some (327, true), false, .fadr 1 (.t 24)⟩,
  ⟨some 329, some (327, true), false, .ldv 24 false 1 328⟩,
  ⟨some 330, some (327, true), false, .fadr 1 (.t 16)⟩,
  ⟨some 331, some (327, true), false, .ldv 16 false 1 330⟩,
  ⟨some 332, some (327, true), false, .bin .geq (.t 329) (.t 331)⟩,
  ⟨some 333, none, false, .pick (.t 327) (.t 332) (.c (.bool false))⟩,
  ⟨some 334, none, false, .mv (.t 333)⟩,
  ⟨some 335, some (334, true), false, .fadr 0 (.t 25)⟩,
  ⟨some 336, some (334, true), false, .ldv 25 false 1 335⟩,
  ⟨some 337, some (334, true), false, .fadr 0 (.t 17)⟩,
  ⟨some 338, some (334, true), false, .ldv 17 false 1 337⟩,
  ⟨some 339, some (334, true), false, .bin .leq (.t 336) (.t 338)⟩,
  ⟨some 340, none, false, .pick (.t 334) (.t 339) (.c (.bool false))⟩,
  ⟨some 341, none, false, .mv (.t 340)⟩,
  ⟨some 342, some (341, true), false, .fadr 1 (.t 25)⟩,
  ⟨some 343, some (341, true), false, .ldv 25 false 1 342⟩,
  ⟨some 344, some (341, true), false, .fadr 1 (.t 17)⟩,
  ⟨some 345, some (341, true), false, .ldv 17 false 1 344⟩,
  ⟨some 346, some (341, true), false, .bin .geq (.t 343) (.t 345)⟩,
  ⟨some 347, none, false, .pick (.t 341) (.t 346) (.c (.bool false))⟩,
  ⟨some 348, none, false, .mv (.t 347)⟩,
  ⟨some 349, some (348, true), false, .fadr 0 (.t 26)⟩,
  ⟨some 350, some (348, true), false, .ldv 26 false 1 349⟩,
  ⟨some 351, some (348, true), false, .fadr 0 (.t 19)⟩,
  ⟨some 352, some (348, true), false, .ldv 19 false 1 351⟩,
  ⟨some 353, some (348, true), false, .bin .leq (.t 350) (.t 352)⟩,
  ⟨some 354, none, false, .pick (.t 348) (.t 353) (.c (.bool false))⟩,
  ⟨some 355, none, false, .mv (.t 354)⟩,
  ⟨some 356, some (355, true), false, .fadr 1 (.t 26)⟩,
  ⟨some 357, some (355, true), false, .ldv 26 false 1 356⟩,
  ⟨some 358, some (355, true), false, .fadr 1 (.t 19)⟩,
  ⟨some 359, some (355, true), false, .ldv 19 false 1 358⟩,
  ⟨some 360, some (355, true), false, .bin .geq (.t 357) (.t 359)⟩,
  ⟨some 361, none, false, .pick (.t 355) (.t 360) (.c (.bool false))⟩,
  ⟨some 362, none, false, .mv (.t 361)⟩,
  ⟨some 363, some (362, true), false, .call false (.c (.fn i_law04_wakes [] [])) []⟩,
  ⟨some 364, none, false, .pick (.t 362) (.t 363) (.c (.bool false))⟩,
  ⟨some 6, none, false, .mv (.t 364)⟩]

def a_law04_TrialKept : Ann := ⟨[(29, [6]), (28, [14, 15, 16, 17, 18, 19, 20, 22, 23, 24, 25, 26]), (27, [10, 13, 14, 15, 16, 17, 18, 19, 22, 23, 24, 25]), (26, [10, 13, 14, 15, 16, 17, 19]), (25, [6]), (24, [10, 13, 14, 15, 16, 17, 19, 271]), (23, [6]), (22, [10, 13, 14, 15, 16, 17, 19, 267]), (21, [4, 9, 10, 13, 14, 15, 16, 17, 18, 19, 20, 21]), (20, [4, 9, 10, 13, 14, 15, 16, 17, 18, 19, 20]), (19, [4, 9, 10, 13, 14, 15, 16, 17, 18]), (18, [4, 9, 10, 13]), (15, [2, 3, 4, 9, 10, 11]), (17, [2, 3, 4, 9, 10, 11]), (16, [2, 3, 4, 9, 10, 11, 12]), (14, [2, 3, 4, 9, 10, 11, 143]), (13, [2, 3, 4, 9, 10, 11]), (12, [2, 3, 4, 9, 10]), (11, [2, 3, 4, 9]), (10, [6]), (9, [2, 3, 4, 128]), (5, [2, 3, 4, 7]), (8, [6]), (7, [2, 3, 4, 7, 79]), (6, [2, 3, 4, 7, 8]), (4, [2, 3, 4, 7, 54]), (3, [2, 3, 4, 7]), (2, [6]), (1, [2, 3, 4, 48]), (0, [2, 3, 4])], [(2, [2, 3, 4, 9, 10, 11]), (0, [2, 3, 4, 7])], [], [8, 9, 10, 15, 16, 17, 19, 23, 24, 25, 26], [8, 9, 10, 15, 16, 17, 19, 23, 24, 25, 26], [], [12001], [(18, [10])], [], []⟩
def f_law04_TrialKept : Abs.Fn := ⟨3, [.t 6],
  (.seq (.reg [2, 3, 4] f_law04_TrialKept_r0) (.seq (.seq (.reg [2, 3, 4, 48] f_law04_TrialKept_r1) (.ite (.t 48) (.seq (.reg [6] f_law04_TrialKept_r2) .ret) .nop)) (.seq (.seq (.reg [2, 3, 4, 7] f_law04_TrialKept_r3) (.blk 0 (.loop [2, 3, 4, 7] false f_law04_TrialKept_l9))) (.seq (.seq (.reg [2, 3, 4, 128] f_law04_TrialKept_r10) (.ite (.t 128) (.seq (.reg [6] f_law04_TrialKept_r11) .ret) .nop)) (.seq (.reg [2, 3, 4, 9] f_law04_TrialKept_r12) (.seq (.reg [2, 3, 4, 9, 10] f_law04_TrialKept_r13) (.seq (.seq (.reg [2, 3, 4, 9, 10, 11] f_law04_TrialKept_r14) (.blk 2 (.loop [2, 3, 4, 9, 10, 11] false f_law04_TrialKept_l19))) (.seq (.seq (.frz [10]) (.reg [4, 9, 10, 13] f_law04_TrialKept_r20)) (.seq (.reg [4, 9, 10, 13, 14, 15, 16, 17, 18] f_law04_TrialKept_r21) (.seq (.reg [4, 9, 10, 13, 14, 15, 16, 17, 18, 19, 20] f_law04_TrialKept_r22) (.seq (.reg [4, 9, 10, 13, 14, 15, 16, 17, 18, 19, 20, 21] f_law04_TrialKept_r23) (.seq (.seq (.reg [10, 13, 14, 15, 16, 17, 19, 267] f_law04_TrialKept_r24) (.ite (.t 267) (.seq (.reg [6] f_law04_TrialKept_r25) .ret) .nop)) (.seq (.seq (.reg [10, 13, 14, 15, 16, 17, 19, 271] f_law04_TrialKept_r26) (.ite (.t 271) (.seq (.reg [6] f_law04_TrialKept_r27) .ret) .nop)) (.seq (.reg [10, 13, 14, 15, 16, 17, 19] f_law04_TrialKept_r28) (.seq (.reg [10, 13, 14, 15, 16, 17, 18, 19, 22, 23, 24, 25] f_law04_TrialKept_r29) (.seq (.reg [14, 15, 16, 17, 18, 19, 20, 22, 23, 24, 25, 26] f_law04_TrialKept_r30) (.seq (.reg [6] f_law04_TrialKept_r31) .ret)))))))))))))))))⟩

theorem e_law04_TrialKept_r0 : type_of% f_law04_TrialKept_r0.eq_1 := by_rfl f_law04_TrialKept_r0.eq_1
theorem e_law04_TrialKept_r1 : type_of% f_law04_TrialKept_r1.eq_1 := by_rfl f_law04_TrialKept_r1.eq_1
theorem e_law04_TrialKept_r2 : type_of% f_law04_TrialKept_r2.eq_1 := by_rfl f_law04_TrialKept_r2.eq_1
theorem e_law04_TrialKept_r3 : type_of% f_law04_TrialKept_r3.eq_1 := by_rfl f_law04_TrialKept_r3.eq_1
theorem e_law04_TrialKept_r4 : type_of% f_law04_TrialKept_r4.eq_1 := by_rfl f_law04_TrialKept_r4.eq_1
theorem e_law04_TrialKept_r5 : type_of% f_law04_TrialKept_r5.eq_1 := by_rfl f_law04_TrialKept_r5.eq_1
theorem e_law04_TrialKept_r6 : type_of% f_law04_TrialKept_r6.eq_1 := by_rfl f_law04_TrialKept_r6.eq_1
theorem e_law04_TrialKept_r7 : type_of% f_law04_TrialKept_r7.eq_1 := by_rfl f_law04_TrialKept_r7.eq_1
theorem e_law04_TrialKept_r8 : type_of% f_law04_TrialKept_r8.eq_1 := by_rfl f_law04_TrialKept_r8.eq_1
theorem e_law04_TrialKept_l9 : type_of% f_law04_TrialKept_l9.eq_1 := by_rfl f_law04_TrialKept_l9.eq_1
theorem e_law04_TrialKept_r10 : type_of% f_law04_TrialKept_r10.eq_1 := by_rfl f_law04_TrialKept_r10.eq_1
theorem e_law04_TrialKept_r11 : type_of% f_law04_TrialKept_r11.eq_1 := by_rfl f_law04_TrialKept_r11.eq_1
theorem e_law04_TrialKept_r12 : type_of% f_law04_TrialKept_r12.eq_1 := by_rfl f_law04_TrialKept_r12.eq_1
theorem e_law04_TrialKept_r13 : type_of% f_law04_TrialKept_r13.eq_1 := by_rfl f_law04_TrialKept_r13.eq_1
theorem e_law04_TrialKept_r14 : type_of% f_law04_TrialKept_r14.eq_1 := by_rfl f_law04_TrialKept_r14.eq_1
theorem e_law04_TrialKept_r15 : type_of% f_law04_TrialKept_r15.eq_1 := by_rfl f_law04_TrialKept_r15.eq_1
theorem e_law04_TrialKept_r16 : type_of% f_law04_TrialKept_r16.eq_1 := by_rfl f_law04_TrialKept_r16.eq_1
theorem e_law04_TrialKept_r17 : type_of% f_law04_TrialKept_r17.eq_1 := by_rfl f_law04_TrialKept_r17.eq_1
theorem e_law04_TrialKept_r18 : type_of% f_law04_TrialKept_r18.eq_1 := by_rfl f_law04_TrialKept_r18.eq_1
theorem e_law04_TrialKept_l19 : type_of% f_law04_TrialKept_l19.eq_1 := by_rfl f_law04_TrialKept_l19.eq_1
theorem e_law04_TrialKept_r20 : type_of% f_law04_TrialKept_r20.eq_1 := by_rfl f_law04_TrialKept_r20.eq_1
theorem e_law04_TrialKept_r21 : type_of% f_law04_TrialKept_r21.eq_1 := by_rfl f_law04_TrialKept_r21.eq_1
theorem e_law04_TrialKept_r22 : type_of% f_law04_TrialKept_r22.eq_1 := by_rfl f_law04_TrialKept_r22.eq_1
theorem e_law04_TrialKept_r23 : type_of% f_law04_TrialKept_r23.eq_1 := by_rfl f_law04_TrialKept_r23.eq_1
theorem e_law04_TrialKept_r24 : type_of% f_law04_TrialKept_r24.eq_1 := by_rfl f_law04_TrialKept_r24.eq_1
theorem e_law04_TrialKept_r25 : type_of% f_law04_TrialKept_r25.eq_1 := by_rfl f_law04_TrialKept_r25.eq_1
theorem e_law04_TrialKept_r26 : type_of% f_law04_TrialKept_r26.eq_1 := by_rfl f_law04_TrialKept_r26.eq_1
theorem e_law04_TrialKept_r27 : type_of% f_law04_TrialKept_r27.eq_1 := by_rfl f_law04_TrialKept_r27.eq_1
theorem e_law04_TrialKept_r28 : type_of% f_law04_TrialKept_r28.eq_1 := by_rfl f_law04_TrialKept_r28.eq_1
theorem e_law04_TrialKept_r29 : type_of% f_law04_TrialKept_r29.eq_1 := by_rfl f_law04_TrialKept_r29.eq_1
theorem e_law04_TrialKept_r30 : type_of% f_law04_TrialKept_r30.eq_1 := by_rfl f_law04_TrialKept_r30.eq_1
theorem e_law04_TrialKept_r31 : type_of% f_law04_TrialKept_r31.eq_1 := by_rfl f_law04_TrialKept_r31.eq_1
theorem e_law04_TrialKept : type_of% f_law04_TrialKept.eq_1 := by_rfl f_law04_TrialKept.eq_1
theorem ok_law04_TrialKept : fnC Try.prog a_law04_TrialKept Try.f4 = some f_law04_TrialKept := by kernel_rfl

/-! 6 fumarole/fumarolelaw04.TrialProves -/
def f_law04_TrialProves_r0 : List Abs.Op := [
  ⟨some 5, none, false, .boxi (.t 0)⟩,
  ⟨some 9, none, false, .boxi (.t 4)⟩,
  ⟨some 10, none, false, .mv (.c (.bool false))⟩]

def f_law04_TrialProves_r1 : List Abs.Op := [
  ⟨some 12, none, false, .fadr 6 (.t 5)⟩,
  ⟨some 13, none, false, .ld false 1 (.t 12)⟩,
  ⟨some 14, none, false, .lenS (.t 13)⟩,
  ⟨some 15, none, false, .bin .gtr (.t 14) (.c (.int .i64 20))⟩,
  ⟨some 16, none, false, .mv (.t 15)⟩,
  ⟨some 17, some (16, false), false, .mv (.t 1)⟩,
  ⟨some 18, some (16, false), false, .lenS (.t 17)⟩,
  ⟨some 19, some (16, false), false, .bin .gtr (.t 18) (.c (.int .i64 1700))⟩,
  ⟨some 20, none, false, .pick (.t 16) (.c (.bool true)) (.t 19)⟩]

def f_law04_TrialProves_r2 : List Abs.Op := [
  ⟨some 21, none, false, .call false (.c (.fn i_law04_wakes [] [])) []⟩,
  ⟨some 10, none, false, .mv (.t 21)⟩]

def f_law04_TrialProves_r3 : List Abs.Op := [
  ⟨some 22, none, false, .ld true 7 (.t 5)⟩,
  ⟨some 23, none, false, .call false (.c (.fn i_ref04_TestFault [] [])) [(.t 22)]⟩,
  ⟨some 24, none, false, .bin .eql (.t 23) (.c (.int .i64 0))⟩,
  ⟨some 11, none, false, .mv (.t 24)⟩]

def f_law04_TrialProves_r4 : List Abs.Op := [
  ⟨some 25, none, false, .mv (.t 2)⟩,
  ⟨some 26, none, false, .mv (.t 25)⟩,
  ⟨some 27, some (26, true), false, .mv (.t 11)⟩,
  ⟨some 28, none, false, .pick (.t 26) (.t 27) (.c (.bool false))⟩]

def f_law04_TrialProves_r5 : List Abs.Op := [
  ⟨some 29, none, false, .ld true 7 (.t 5)⟩,
  ⟨some 30, none, false, .call true (.c (.fn i_ref04_Conflicts [] [])) [(.t 29)]⟩,
  ⟨some 1, none, false, .mv (.t 30)⟩]

def f_law04_TrialProves_r6 : List Abs.Op := [
  ⟨some 31, none, false, .mv (.t 3)⟩,
  ⟨some 32, none, false, .mv (.t 1)⟩,
  ⟨some 33, none, false, .lenS (.t 32)⟩,
  ⟨some 34, none, false, .bin .sub (.t 33) (.c (.int .i64 1))⟩,
  ⟨some 35, none, false, .call false (.c (.fn i_ref04_In [] [])) [(.t 31), (.c (.int .i64 0)), (.t 34)]⟩]

def f_law04_TrialProves_r7 : List Abs.Op := [
  ⟨some 36, none, false, .mv (.t 1)⟩,
  ⟨some 37, none, false, .mv (.t 3)⟩,
  ⟨some 38, none, false, .ld true 2 (.t 9)⟩,
  ⟨some 39, none, false, .idxS 2 (.t 36) (.t 37)⟩,
  ⟨none, none, false, .st [] 2 (.t 39) (.t 38)⟩]

def f_law04_TrialProves_r8 : List Abs.Op := [
  ⟨some 40, none, false, .mv (.t 3)⟩,
  ⟨some 41, none, false, .mv (.t 1)⟩,
  ⟨some 42, none, false, .lenS (.t 41)⟩,
  ⟨some 43, none, false, .bin .eql (.t 40) (.t 42)⟩]

def f_law04_TrialProves_r9 : List Abs.Op := [
  ⟨some 44, none, false, .mv (.t 1)⟩,
  ⟨some 45, none, false, .ld true 2 (.t 9)⟩,
  ⟨some 46, none, false, .bsi 1 2 [(.int .i64 0), (.int .i64 0)] [(0, 2, (.t 45))]⟩,
  ⟨some 47, none, false, .app 2 16 (.t 44) (.t 46)⟩,
  ⟨some 1, none, false, .mv (.t 47)⟩]

def f_law04_TrialProves_r10 : List Abs.Op := [
  ⟨some 48, none, false, .ld true 7 (.t 5)⟩,
  ⟨some 49, none, false, .call false (.c (.fn i_law04_Test [] [])) [(.t 48)]⟩,
  ⟨some 50, none, false, .bsm 0 2 [] []⟩,
  ⟨some 51, none, false, .mv (.t 1)⟩,
  ⟨some 52, none, false, .apz 2 16 (.t 50) (.t 51)⟩,
  ⟨some 53, none, false, .call false (.c (.fn i_trial_ProveNone [] [])) [(.t 49), (.t 52)]⟩,
  ⟨some 54, none, false, .mv (.t 11)⟩,
  ⟨some 55, none, false, .mv (.t 54)⟩,
  ⟨some 56, some (55, true), false, .ld true 7 (.t 5)⟩,
  ⟨some 57, some (55, true), false, .mv (.t 1)⟩,
  ⟨some 58, some (55, true), false, .call false (.c (.fn i_ref04_Shows [] [])) [(.t 56), (.t 57)]⟩,
  ⟨some 59, none, false, .pick (.t 55) (.t 58) (.c (.bool false))⟩,
  ⟨some 60, none, false, .eqv false [none] false (.t 53) (.t 59)⟩,
  ⟨some 61, none, false, .mv (.t 60)⟩,
  ⟨some 62, some (61, true), false, .call false (.c (.fn i_law04_wakes [] [])) []⟩,
  ⟨some 63, none, false, .pick (.t 61) (.t 62) (.c (.bool false))⟩,
  ⟨some 10, none, false, .mv (.t 63)⟩]

def a_law04_TrialProves : Ann := ⟨[(10, [10]), (9, [1, 5, 11]), (8, [1, 5, 9, 11, 43]), (7, [1, 3, 5, 9, 11]), (6, [1, 3, 5, 9, 11, 35]), (5, [1, 3, 5, 9, 11]), (4, [1, 3, 5, 9, 11, 28]), (3, [1, 2, 3, 5, 9, 11]), (2, [10]), (1, [1, 2, 3, 5, 9, 20]), (0, [1, 2, 3, 5, 9])], [], [], [50], [], [], [5001, 10004], [(10, [1])], [], []⟩
def f_law04_TrialProves : Abs.Fn := ⟨5, [.t 10],
  (.seq (.reg [1, 2, 3, 5, 9] f_law04_TrialProves_r0) (.seq (.seq (.reg [1, 2, 3, 5, 9, 20] f_law04_TrialProves_r1) (.ite (.t 20) (.seq (.reg [10] f_law04_TrialProves_r2) .ret) .nop)) (.seq (.reg [1, 2, 3, 5, 9, 11] f_law04_TrialProves_r3) (.seq (.seq (.reg [1, 3, 5, 9, 11, 28] f_law04_TrialProves_r4) (.ite (.t 28) (.seq (.reg [1, 3, 5, 9, 11] f_law04_TrialProves_r5) (.seq (.seq (.reg [1, 3, 5, 9, 11, 35] f_law04_TrialProves_r6) (.ite (.t 35) (.reg [1, 3, 5, 9, 11] f_law04_TrialProves_r7) .nop)) (.seq (.reg [1, 5, 9, 11, 43] f_law04_TrialProves_r8) (.ite (.t 43) (.reg [1, 5, 11] f_law04_TrialProves_r9) .nop)))) .nop)) (.seq (.seq (.frz [1]) (.reg [10] f_law04_TrialProves_r10)) .ret)))))⟩

theorem e_law04_TrialProves_r0 : type_of% f_law04_TrialProves_r0.eq_1 := by_rfl f_law04_TrialProves_r0.eq_1
theorem e_law04_TrialProves_r1 : type_of% f_law04_TrialProves_r1.eq_1 := by_rfl f_law04_TrialProves_r1.eq_1
theorem e_law04_TrialProves_r2 : type_of% f_law04_TrialProves_r2.eq_1 := by_rfl f_law04_TrialProves_r2.eq_1
theorem e_law04_TrialProves_r3 : type_of% f_law04_TrialProves_r3.eq_1 := by_rfl f_law04_TrialProves_r3.eq_1
theorem e_law04_TrialProves_r4 : type_of% f_law04_TrialProves_r4.eq_1 := by_rfl f_law04_TrialProves_r4.eq_1
theorem e_law04_TrialProves_r5 : type_of% f_law04_TrialProves_r5.eq_1 := by_rfl f_law04_TrialProves_r5.eq_1
theorem e_law04_TrialProves_r6 : type_of% f_law04_TrialProves_r6.eq_1 := by_rfl f_law04_TrialProves_r6.eq_1
theorem e_law04_TrialProves_r7 : type_of% f_law04_TrialProves_r7.eq_1 := by_rfl f_law04_TrialProves_r7.eq_1
theorem e_law04_TrialProves_r8 : type_of% f_law04_TrialProves_r8.eq_1 := by_rfl f_law04_TrialProves_r8.eq_1
theorem e_law04_TrialProves_r9 : type_of% f_law04_TrialProves_r9.eq_1 := by_rfl f_law04_TrialProves_r9.eq_1
theorem e_law04_TrialProves_r10 : type_of% f_law04_TrialProves_r10.eq_1 := by_rfl f_law04_TrialProves_r10.eq_1
theorem e_law04_TrialProves : type_of% f_law04_TrialProves.eq_1 := by_rfl f_law04_TrialProves.eq_1
theorem ok_law04_TrialProves : fnC Try.prog a_law04_TrialProves Try.f6 = some f_law04_TrialProves := by kernel_rfl

/-! 7 fumarole/fumarolelaw04.TrialDrops -/
def f_law04_TrialDrops_r0 : List Abs.Op := [
  ⟨some 3, none, false, .boxi (.t 0)⟩,
  ⟨some 6, none, false, .mv (.c (.bool false))⟩]

def f_law04_TrialDrops_r1 : List Abs.Op := [
  ⟨some 17, none, false, .fadr 6 (.t 3)⟩,
  ⟨some 18, none, false, .ld false 1 (.t 17)⟩,
  ⟨some 19, none, false, .lenS (.t 18)⟩,
  ⟨some 20, none, false, .bin .gtr (.t 19) (.c (.int .i64 20))⟩,
  ⟨some 21, none, false, .mv (.t 20)⟩,
  ⟨some 22, some (21, false), false, .mv (.t 2)⟩,
  ⟨some 23, some (21, false), false, .lenS (.t 22)⟩,
  ⟨some 24, some (21, false), false, .bin .gtr (.t 23) (.c (.int .i64 20))⟩,
  ⟨some 25, none, false, .pick (.t 21) (.c (.bool true)) (.t 24)⟩]

def f_law04_TrialDrops_r2 : List Abs.Op := [
  ⟨some 26, none, false, .call false (.c (.fn i_law04_wakes [] [])) []⟩,
  ⟨some 6, none, false, .mv (.t 26)⟩]

def f_law04_TrialDrops_r3 : List Abs.Op := [
  ⟨some 28, none, false, .ld true 7 (.t 3)⟩,
  ⟨some 29, none, false, .call false (.c (.fn i_law04_Test [] [])) [(.t 28)]⟩,
  ⟨some 30, none, false, .mv (.t 1)⟩,
  ⟨some 31, none, false, .call false (.c (.fn i_trial_Drawdown [] [])) [(.t 29), (.t 30)]⟩,
  ⟨some 27, none, false, .mv (.t 31)⟩,
  ⟨some 32, none, false, .ext (.t 27) 0⟩,
  ⟨some 33, none, false, .ext (.t 27) 1⟩,
  ⟨some 7, none, false, .alcv [] [(.int .i64 0), (.int .i64 0)]⟩,
  ⟨none, none, false, .stv 7 [] 2 7 (.t 32)⟩,
  ⟨some 8, none, false, .mv (.t 33)⟩]

def f_law04_TrialDrops_r4 : List Abs.Op := [
  ⟨some 35, none, false, .ld true 7 (.t 3)⟩,
  ⟨some 36, none, false, .call false (.c (.fn i_law04_Test [] [])) [(.t 35)]⟩,
  ⟨some 37, none, false, .bsm 0 1 [] []⟩,
  ⟨some 38, none, false, .mv (.t 2)⟩,
  ⟨some 39, none, false, .apz 1 8 (.t 37) (.t 38)⟩,
  ⟨some 40, none, false, .call false (.c (.fn i_trial_Widest [] [])) [(.t 36), (.t 39)]⟩,
  ⟨some 34, none, false, .mv (.t 40)⟩,
  ⟨some 41, none, false, .ext (.t 34) 0⟩,
  ⟨some 42, none, false, .ext (.t 34) 1⟩,
  ⟨some 9, none, false, .mv (.t 41)⟩,
  ⟨some 10, none, false, .mv (.t 42)⟩]

def f_law04_TrialDrops_r5 : List Abs.Op := [
  ⟨some 43, none, false, .mv (.t 2)⟩,
  ⟨some 44, none, false, .lenS (.t 43)⟩,
  ⟨some 45, none, false, .bin .lss (.t 44) (.c (.int .i64 1))⟩,
  ⟨some 46, none, false, .mv (.t 45)⟩,
  ⟨some 47, some (46, false), false, .mv (.t 2)⟩,
  ⟨some 48, some (46, false), false, .lenS (.t 47)⟩,
  ⟨some 49, some (46, false), false, .bin .gtr (.t 48) (.c (.int .i64 12))⟩,
  ⟨some 50, none, false, .pick (.t 46) (.c (.bool true)) (.t 49)⟩,
  ⟨some 11, none, false, .mv (.t 50)⟩]

def f_law04_TrialDrops_r6 : List Abs.Op := [
  ⟨some 12, none, false, .mv (.c (.int .i64 0))⟩]

def f_law04_TrialDrops_r7 : List Abs.Op := [
  ⟨some 51, none, false, .mv (.t 12)⟩,
  ⟨some 52, none, false, .mv (.t 2)⟩,
  ⟨some 53, none, false, .lenS (.t 52)⟩,
  ⟨some 54, none, false, .bin .lss (.t 51) (.t 53)⟩]

def f_law04_TrialDrops_r8 : List Abs.Op := [
  ⟨some 57, none, false, .mv (.t 11)⟩,
  ⟨some 58, none, false, .mv (.t 57)⟩,
  ⟨some 59, some (58, false), false, .mv (.t 2)⟩,
  ⟨some 60, some (58, false), false, .mv (.t 12)⟩,
  ⟨some 61, some (58, false), false, .idxS 1 (.t 59) (.t 60)⟩,
  ⟨some 62, some (58, false), false, .ld false 1 (.t 61)⟩,
  ⟨some 63, some (58, false), false, .call false (.c (.fn i_ref04_In [] [])) [(.t 62), (.c (.int .i64 0)), (.c (.int .i64 1000))]⟩,
  ⟨some 64, some (58, false), false, .un .not (.t 63)⟩,
  ⟨some 65, none, false, .pick (.t 58) (.c (.bool true)) (.t 64)⟩,
  ⟨some 11, none, false, .mv (.t 65)⟩]

def f_law04_TrialDrops_r9 : List Abs.Op := [
  ⟨some 55, none, false, .mv (.t 12)⟩,
  ⟨some 56, none, false, .bin .add (.t 55) (.c (.int .i64 1))⟩,
  ⟨some 12, none, false, .mv (.t 56)⟩]

def f_law04_TrialDrops_l10 : Abs.Cmd :=
  (.seq (.seq (.reg [1, 2, 3, 7, 8, 9, 10, 11, 12, 54] f_law04_TrialDrops_r7) (.ite (.t 54) .nop (.exit 0))) (.seq (.blk 1 (.reg [1, 2, 3, 7, 8, 9, 10, 11, 12] f_law04_TrialDrops_r8)) (.reg [1, 2, 3, 7, 8, 9, 10, 11, 12] f_law04_TrialDrops_r9)))

def f_law04_TrialDrops_r11 : List Abs.Op := [
  ⟨some 66, none, true, .ld true 7 (.t 3)⟩,
  ⟨some 67, none, true, .mv (.t 1)⟩,
  ⟨some 68, none, true, .call false (.c (.fn i_ref04_In [] [])) [(.t 67), (.c (.int .i64 0)), (.c (.int .i64 1000))]⟩,
  ⟨some 69, none, true, .un .not (.t 68)⟩,
  ⟨some 70, none, true, .call false (.c (.fn i_law04_asked [] [])) [(.t 66), (.t 69), (.c (.int .i64 2))]⟩,
  ⟨some 71, none, true, .ld true 7 (.t 3)⟩,
  ⟨some 72, none, true, .mv (.t 11)⟩,
  ⟨some 73, none, false, .call false (.c (.fn i_law04_asked [] [])) [(.t 71), (.t 72), (.c (.int .i64 2))]⟩,
  ⟨some 13, none, false, .mv (.t 70)⟩,
  ⟨some 14, none, false, .mv (.t 73)⟩]

def f_law04_TrialDrops_r12 : List Abs.Op := [
  ⟨some 74, none, false, .mv (.t 8)⟩,
  ⟨some 75, none, false, .mv (.t 13)⟩,
  ⟨some 76, none, false, .bin .neq (.t 74) (.t 75)⟩,
  ⟨some 77, none, false, .mv (.t 76)⟩,
  ⟨some 78, some (77, false), false, .mv (.t 10)⟩,
  ⟨some 79, some (77, false), false, .mv (.t 14)⟩,
  ⟨some 80, some (77, false), false, .bin .neq (.t 78) (.t 79)⟩,
  ⟨some 81, none, false, .pick (.t 77) (.c (.bool true)) (.t 80)⟩,
  ⟨some 82, none, false, .mv (.t 81)⟩,
  ⟨some 83, some (82, false), false, .mv (.t 13)⟩,
  ⟨some 84, some (82, false), false, .bin .neq (.t 83) (.c (.int .i64 0))⟩,
  ⟨some 85, some (82, false), false, .mv (.t 84)⟩,
  ⟨some 86, some (85, true), false, .ldv 7 true 2 7⟩,
  ⟨some 87, some (85, true), false, .bld [(.int .i64 0), (.int .i64 0)] []⟩,
  ⟨some 88, some (85, true), false, .eqv true [some .i64, some .i64] true (.t 86) (.t 87)⟩,
  ⟨some 89, some (82, false), false, .pick (.t 85) (.t 88) (.c (.bool false))⟩,
  ⟨some 90, none, false, .pick (.t 82) (.c (.bool true)) (.t 89)⟩,
  ⟨some 91, none, false, .mv (.t 90)⟩,
  ⟨some 92, some (91, false), false, .mv (.t 14)⟩,
  ⟨some 93, some (91, false), false, .bin .neq (.t 92) (.c (.int .i64 0))⟩,
  ⟨some 94, some (91, false), false, .mv (.t 93)⟩,
  ⟨some 95, some (94, true), false, .mv (.t 9)⟩,
  ⟨some 96, some (94, true), false, .bin .neq (.t 95) (.c (.int .i64 0))⟩,
  ⟨some 97, some (91, false), false, .pick (.t 94) (.t 96) (.c (.bool false))⟩,
  ⟨some 98, none, false, .pick (.t 91) (.c (.bool true)) (.t 97)⟩]

def f_law04_TrialDrops_r13 : List Abs.Op := [
  ⟨some 6, none, false, .mv (.c (.bool false))⟩]

def f_law04_TrialDrops_r14 : List Abs.Op := [
  ⟨some 99, none, false, .mv (.t 13)⟩,
  ⟨some 100, none, false, .bin .eql (.t 99) (.c (.int .i64 0))⟩]

def f_law04_TrialDrops_r15 : List Abs.Op := [
  ⟨some 102, none, false, .ld true 7 (.t 3)⟩,
  ⟨some 103, none, false, .mv (.t 1)⟩,
  ⟨some 104, none, false, .call false (.c (.fn i_ref04_Drawdown [] [])) [(.t 102), (.t 103)]⟩,
  ⟨some 101, none, false, .mv (.t 104)⟩,
  ⟨some 105, none, false, .ext (.t 101) 0⟩,
  ⟨some 106, none, false, .ext (.t 101) 1⟩,
  ⟨some 15, none, false, .alcv [] [(.int .i64 0), (.int .i64 0)]⟩,
  ⟨none, none, false, .stv 15 [] 2 15 (.t 105)⟩,
  ⟨some 16, none, false, .mv (.t 106)⟩]

def f_law04_TrialDrops_r16 : List Abs.Op := [
  ⟨some 107, none, true, .ldv 7 true 2 7⟩,
  ⟨some 108, none, true, .ldv 15 true 2 15⟩,
  ⟨some 109, none, true, .call false (.c (.fn i_law04_Range [] [])) [(.t 108)]⟩,
  ⟨some 110, none, false, .eqv true [some .i64, some .i64] true (.t 107) (.t 109)⟩]

def f_law04_TrialDrops_r17 : List Abs.Op := [
  ⟨some 6, none, false, .mv (.c (.bool false))⟩]

def f_law04_TrialDrops_r18 : List Abs.Op := [
  ⟨some 111, none, false, .mv (.t 14)⟩,
  ⟨some 112, none, false, .bin .neq (.t 111) (.c (.int .i64 0))⟩,
  ⟨some 113, none, false, .mv (.t 112)⟩,
  ⟨some 114, some (113, false), false, .mv (.t 9)⟩,
  ⟨some 115, some (113, false), false, .ld true 7 (.t 3)⟩,
  ⟨some 116, some (113, false), false, .mv (.t 2)⟩,
  ⟨some 117, some (113, false), false, .call false (.c (.fn i_ref04_Widest [] [])) [(.t 115), (.t 116)]⟩,
  ⟨some 118, some (113, false), false, .bin .eql (.t 114) (.t 117)⟩,
  ⟨some 119, none, false, .pick (.t 113) (.c (.bool true)) (.t 118)⟩,
  ⟨some 120, none, false, .mv (.t 119)⟩,
  ⟨some 121, some (120, true), false, .call false (.c (.fn i_law04_wakes [] [])) []⟩,
  ⟨some 122, none, false, .pick (.t 120) (.t 121) (.c (.bool false))⟩,
  ⟨some 6, none, false, .mv (.t 122)⟩]

def a_law04_TrialDrops : Ann := ⟨[(17, [6]), (16, [6]), (15, [2, 3, 9, 14, 110]), (14, [2, 3, 7, 9, 14, 15]), (13, [1, 2, 3, 7, 9, 14, 100]), (12, [6]), (11, [1, 2, 3, 7, 9, 13, 14, 98]), (10, [1, 2, 3, 7, 8, 9, 10, 13, 14]), (8, [1, 2, 3, 7, 8, 9, 10, 11, 12]), (9, [1, 2, 3, 7, 8, 9, 10, 11, 12]), (7, [1, 2, 3, 7, 8, 9, 10, 11, 12, 54]), (6, [1, 2, 3, 7, 8, 9, 10, 11, 12]), (5, [1, 2, 3, 7, 8, 9, 10, 11]), (4, [1, 2, 3, 7, 8, 9, 10]), (3, [1, 2, 3, 7, 8]), (2, [6]), (1, [1, 2, 3, 25]), (0, [1, 2, 3])], [(0, [1, 2, 3, 7, 8, 9, 10, 11, 12])], [], [7, 15, 37], [7, 15], [], [4004], [], [], []⟩
def f_law04_TrialDrops : Abs.Fn := ⟨3, [.t 6],
  (.seq (.reg [1, 2, 3] f_law04_TrialDrops_r0) (.seq (.seq (.reg [1, 2, 3, 25] f_law04_TrialDrops_r1) (.ite (.t 25) (.seq (.reg [6] f_law04_TrialDrops_r2) .ret) .nop)) (.seq (.reg [1, 2, 3, 7, 8] f_law04_TrialDrops_r3) (.seq (.reg [1, 2, 3, 7, 8, 9, 10] f_law04_TrialDrops_r4) (.seq (.reg [1, 2, 3, 7, 8, 9, 10, 11] f_law04_TrialDrops_r5) (.seq (.seq (.reg [1, 2, 3, 7, 8, 9, 10, 11, 12] f_law04_TrialDrops_r6) (.blk 0 (.loop [1, 2, 3, 7, 8, 9, 10, 11, 12] false f_law04_TrialDrops_l10))) (.seq (.reg [1, 2, 3, 7, 8, 9, 10, 13, 14] f_law04_TrialDrops_r11) (.seq (.seq (.reg [1, 2, 3, 7, 9, 13, 14, 98] f_law04_TrialDrops_r12) (.ite (.t 98) (.seq (.reg [6] f_law04_TrialDrops_r13) .ret) .nop)) (.seq (.seq (.reg [1, 2, 3, 7, 9, 14, 100] f_law04_TrialDrops_r14) (.ite (.t 100) (.seq (.reg [2, 3, 7, 9, 14, 15] f_law04_TrialDrops_r15) (.seq (.reg [2, 3, 9, 14, 110] f_law04_TrialDrops_r16) (.ite (.t 110) (.seq (.reg [6] f_law04_TrialDrops_r17) .ret) .nop))) .nop)) (.seq (.reg [6] f_law04_TrialDrops_r18) .ret))))))))))⟩

theorem e_law04_TrialDrops_r0 : type_of% f_law04_TrialDrops_r0.eq_1 := by_rfl f_law04_TrialDrops_r0.eq_1
theorem e_law04_TrialDrops_r1 : type_of% f_law04_TrialDrops_r1.eq_1 := by_rfl f_law04_TrialDrops_r1.eq_1
theorem e_law04_TrialDrops_r2 : type_of% f_law04_TrialDrops_r2.eq_1 := by_rfl f_law04_TrialDrops_r2.eq_1
theorem e_law04_TrialDrops_r3 : type_of% f_law04_TrialDrops_r3.eq_1 := by_rfl f_law04_TrialDrops_r3.eq_1
theorem e_law04_TrialDrops_r4 : type_of% f_law04_TrialDrops_r4.eq_1 := by_rfl f_law04_TrialDrops_r4.eq_1
theorem e_law04_TrialDrops_r5 : type_of% f_law04_TrialDrops_r5.eq_1 := by_rfl f_law04_TrialDrops_r5.eq_1
theorem e_law04_TrialDrops_r6 : type_of% f_law04_TrialDrops_r6.eq_1 := by_rfl f_law04_TrialDrops_r6.eq_1
theorem e_law04_TrialDrops_r7 : type_of% f_law04_TrialDrops_r7.eq_1 := by_rfl f_law04_TrialDrops_r7.eq_1
theorem e_law04_TrialDrops_r8 : type_of% f_law04_TrialDrops_r8.eq_1 := by_rfl f_law04_TrialDrops_r8.eq_1
theorem e_law04_TrialDrops_r9 : type_of% f_law04_TrialDrops_r9.eq_1 := by_rfl f_law04_TrialDrops_r9.eq_1
theorem e_law04_TrialDrops_l10 : type_of% f_law04_TrialDrops_l10.eq_1 := by_rfl f_law04_TrialDrops_l10.eq_1
theorem e_law04_TrialDrops_r11 : type_of% f_law04_TrialDrops_r11.eq_1 := by_rfl f_law04_TrialDrops_r11.eq_1
theorem e_law04_TrialDrops_r12 : type_of% f_law04_TrialDrops_r12.eq_1 := by_rfl f_law04_TrialDrops_r12.eq_1
theorem e_law04_TrialDrops_r13 : type_of% f_law04_TrialDrops_r13.eq_1 := by_rfl f_law04_TrialDrops_r13.eq_1
theorem e_law04_TrialDrops_r14 : type_of% f_law04_TrialDrops_r14.eq_1 := by_rfl f_law04_TrialDrops_r14.eq_1
theorem e_law04_TrialDrops_r15 : type_of% f_law04_TrialDrops_r15.eq_1 := by_rfl f_law04_TrialDrops_r15.eq_1
theorem e_law04_TrialDrops_r16 : type_of% f_law04_TrialDrops_r16.eq_1 := by_rfl f_law04_TrialDrops_r16.eq_1
theorem e_law04_TrialDrops_r17 : type_of% f_law04_TrialDrops_r17.eq_1 := by_rfl f_law04_TrialDrops_r17.eq_1
theorem e_law04_TrialDrops_r18 : type_of% f_law04_TrialDrops_r18.eq_1 := by_rfl f_law04_TrialDrops_r18.eq_1
theorem e_law04_TrialDrops : type_of% f_law04_TrialDrops.eq_1 := by_rfl f_law04_TrialDrops.eq_1
theorem ok_law04_TrialDrops : fnC Try.prog a_law04_TrialDrops Try.f7 = some f_law04_TrialDrops := by kernel_rfl

/-! 8 fumarole/fumarolelaw04.TrialGives -/
def f_law04_TrialGives_r0 : List Abs.Op := [
  ⟨some 2, none, false, .boxi (.t 0)⟩,
  ⟨some 4, none, false, .mv (.c (.bool false))⟩]

def f_law04_TrialGives_r1 : List Abs.Op := [
  ⟨some 11, none, false, .fadr 6 (.t 2)⟩,
  ⟨some 12, none, false, .ld false 1 (.t 11)⟩,
  ⟨some 13, none, false, .lenS (.t 12)⟩,
  ⟨some 14, none, false, .bin .gtr (.t 13) (.c (.int .i64 20))⟩,
  ⟨some 15, none, false, .mv (.t 14)⟩,
  ⟨some 16, some (15, false), false, .ld true 7 (.t 2)⟩,
  ⟨some 17, some (15, false), false, .call false (.c (.fn i_ref04_TestFault [] [])) [(.t 16)]⟩,
  ⟨some 18, some (15, false), false, .bin .eql (.t 17) (.c (.int .i64 0))⟩,
  ⟨some 19, some (15, false), false, .mv (.t 18)⟩,
  ⟨some 20, some (19, true), false, .fadr 2 (.t 2)⟩,
  ⟨some 21, some (19, true), false, .fadr 1 (.t 20)⟩,
  ⟨some 22, some (19, true), false, .ld false 1 (.t 21)⟩,
  ⟨some 23, some (19, true), false, .fadr 2 (.t 2)⟩,
  ⟨some 24, some (19, true), false, .fadr 0 (.t 23)⟩,
  ⟨some 25, some (19, true), false, .ld false 1 (.t 24)⟩,
  ⟨some 26, some (19, true), false, .bin .sub (.t 22) (.t 25)⟩,
  ⟨some 27, some (19, true), false, .bin .add (.t 26) (.c (.int .i64 1))⟩,
  ⟨some 28, some (19, true), false, .fadr 4 (.t 2)⟩,
  ⟨some 29, some (19, true), false, .fadr 1 (.t 28)⟩,
  ⟨some 30, some (19, true), false, .ld false 1 (.t 29)⟩,
  ⟨some 31, some (19, true), false, .fadr 4 (.t 2)⟩,
  ⟨some 32, some (19, true), false, .fadr 0 (.t 31)⟩,
  ⟨some 33, some (19, true), false, .ld false 1 (.t 32)⟩,
  ⟨some 34, some (19, true), false, .bin .sub (.t 30) (.t 33)⟩,
  ⟨some 35, some (19, true), false, .bin .add (.t 34) (.c (.int .i64 1))⟩,
  ⟨some 36, some (19, true), false, .bin .mul (.t 27) (.t 35)⟩,
  ⟨some 37, some (19, true), false, .bin .gtr (.t 36) (.c (.int .i64 60))⟩,
  ⟨some 38, some (15, false), false, .pick (.t 19) (.t 37) (.c (.bool false))⟩,
  ⟨some 39, none, false, .pick (.t 15) (.c (.bool true)) (.t 38)⟩]

def f_law04_TrialGives_r2 : List Abs.Op := [
  ⟨some 40, none, false, .call false (.c (.fn i_law04_wakes [] [])) []⟩,
  ⟨some 4, none, false, .mv (.t 40)⟩]

def f_law04_TrialGives_r3 : List Abs.Op := [
  ⟨some 42, none, false, .ld true 7 (.t 2)⟩,
  ⟨some 43, none, false, .call false (.c (.fn i_law04_Test [] [])) [(.t 42)]⟩,
  ⟨some 44, none, false, .mv (.t 1)⟩,
  ⟨some 45, none, false, .call false (.c (.fn i_trial_Capacity [] [])) [(.t 43), (.t 44)]⟩,
  ⟨some 41, none, false, .mv (.t 45)⟩,
  ⟨some 46, none, false, .ext (.t 41) 0⟩,
  ⟨some 47, none, false, .ext (.t 41) 1⟩,
  ⟨some 48, none, false, .ext (.t 41) 2⟩,
  ⟨some 5, none, false, .mv (.t 46)⟩,
  ⟨some 6, none, false, .mv (.t 47)⟩,
  ⟨some 7, none, false, .mv (.t 48)⟩]

def f_law04_TrialGives_r4 : List Abs.Op := [
  ⟨some 49, none, true, .ld true 7 (.t 2)⟩,
  ⟨some 50, none, true, .mv (.t 1)⟩,
  ⟨some 51, none, true, .call false (.c (.fn i_ref04_In [] [])) [(.t 50), (.c (.int .i64 (-2000000000))), (.c (.int .i64 2000000000))]⟩,
  ⟨some 52, none, true, .un .not (.t 51)⟩,
  ⟨some 53, none, false, .call false (.c (.fn i_law04_asked [] [])) [(.t 49), (.t 52), (.c (.int .i64 2))]⟩,
  ⟨some 8, none, false, .mv (.t 53)⟩]

def f_law04_TrialGives_r5 : List Abs.Op := [
  ⟨some 54, none, false, .mv (.t 8)⟩,
  ⟨some 55, none, false, .bin .neq (.t 54) (.c (.int .i64 0))⟩]

def f_law04_TrialGives_r6 : List Abs.Op := [
  ⟨some 56, none, false, .mv (.t 7)⟩,
  ⟨some 57, none, false, .mv (.t 8)⟩,
  ⟨some 58, none, false, .bin .eql (.t 56) (.t 57)⟩,
  ⟨some 59, none, false, .mv (.t 58)⟩,
  ⟨some 60, some (59, true), false, .mv (.t 5)⟩,
  ⟨some 61, some (59, true), false, .bin .eql (.t 60) (.c (.int .i64 0))⟩,
  ⟨some 62, none, false, .pick (.t 59) (.t 61) (.c (.bool false))⟩,
  ⟨some 63, none, false, .mv (.t 62)⟩,
  ⟨some 64, some (63, true), false, .mv (.t 6)⟩,
  ⟨some 65, some (63, true), false, .bin .eql (.t 64) (.c (.int .i64 0))⟩,
  ⟨some 66, none, false, .pick (.t 63) (.t 65) (.c (.bool false))⟩,
  ⟨some 67, none, false, .mv (.t 66)⟩,
  ⟨some 68, some (67, true), false, .call false (.c (.fn i_law04_wakes [] [])) []⟩,
  ⟨some 69, none, false, .pick (.t 67) (.t 68) (.c (.bool false))⟩,
  ⟨some 4, none, false, .mv (.t 69)⟩]

def f_law04_TrialGives_r7 : List Abs.Op := [
  ⟨some 71, none, false, .ld true 7 (.t 2)⟩,
  ⟨some 72, none, false, .mv (.t 1)⟩,
  ⟨some 73, none, false, .call false (.c (.fn i_ref04_Capacity [] [])) [(.t 71), (.t 72)]⟩,
  ⟨some 70, none, false, .mv (.t 73)⟩,
  ⟨some 74, none, false, .ext (.t 70) 0⟩,
  ⟨some 75, none, false, .ext (.t 70) 1⟩,
  ⟨some 9, none, false, .mv (.t 74)⟩,
  ⟨some 10, none, false, .mv (.t 75)⟩]

def f_law04_TrialGives_r8 : List Abs.Op := [
  ⟨some 76, none, false, .mv (.t 7)⟩,
  ⟨some 77, none, false, .bin .eql (.t 76) (.c (.int .i64 0))⟩,
  ⟨some 78, none, false, .mv (.t 77)⟩,
  ⟨some 79, some (78, true), false, .mv (.t 5)⟩,
  ⟨some 80, some (78, true), false, .mv (.t 9)⟩,
  ⟨some 81, some (78, true), false, .bin .eql (.t 79) (.t 80)⟩,
  ⟨some 82, none, false, .pick (.t 78) (.t 81) (.c (.bool false))⟩,
  ⟨some 83, none, false, .mv (.t 82)⟩,
  ⟨some 84, some (83, true), false, .mv (.t 6)⟩,
  ⟨some 85, some (83, true), false, .mv (.t 10)⟩,
  ⟨some 86, some (83, true), false, .bin .eql (.t 84) (.t 85)⟩,
  ⟨some 87, none, false, .pick (.t 83) (.t 86) (.c (.bool false))⟩,
  ⟨some 88, none, false, .mv (.t 87)⟩,
  ⟨some 89, some (88, true), false, .call false (.c (.fn i_law04_wakes [] [])) []⟩,
  ⟨some 90, none, false, .pick (.t 88) (.t 89) (.c (.bool false))⟩,
  ⟨some 4, none, false, .mv (.t 90)⟩]

def a_law04_TrialGives : Ann := ⟨[(8, [4]), (7, [5, 6, 7, 9, 10]), (6, [4]), (5, [1, 2, 5, 6, 7, 8, 55]), (4, [1, 2, 5, 6, 7, 8]), (3, [1, 2, 5, 6, 7]), (2, [4]), (1, [1, 2, 39]), (0, [1, 2])], [], [], [], [], [], [], [], [], []⟩
def f_law04_TrialGives : Abs.Fn := ⟨2, [.t 4],
  (.seq (.reg [1, 2] f_law04_TrialGives_r0) (.seq (.seq (.reg [1, 2, 39] f_law04_TrialGives_r1) (.ite (.t 39) (.seq (.reg [4] f_law04_TrialGives_r2) .ret) .nop)) (.seq (.reg [1, 2, 5, 6, 7] f_law04_TrialGives_r3) (.seq (.seq (.reg [1, 2, 5, 6, 7, 8] f_law04_TrialGives_r4) (.seq (.reg [1, 2, 5, 6, 7, 8, 55] f_law04_TrialGives_r5) (.ite (.t 55) (.seq (.reg [4] f_law04_TrialGives_r6) .ret) .nop))) (.seq (.reg [5, 6, 7, 9, 10] f_law04_TrialGives_r7) (.seq (.reg [4] f_law04_TrialGives_r8) .ret))))))⟩

theorem e_law04_TrialGives_r0 : type_of% f_law04_TrialGives_r0.eq_1 := by_rfl f_law04_TrialGives_r0.eq_1
theorem e_law04_TrialGives_r1 : type_of% f_law04_TrialGives_r1.eq_1 := by_rfl f_law04_TrialGives_r1.eq_1
theorem e_law04_TrialGives_r2 : type_of% f_law04_TrialGives_r2.eq_1 := by_rfl f_law04_TrialGives_r2.eq_1
theorem e_law04_TrialGives_r3 : type_of% f_law04_TrialGives_r3.eq_1 := by_rfl f_law04_TrialGives_r3.eq_1
theorem e_law04_TrialGives_r4 : type_of% f_law04_TrialGives_r4.eq_1 := by_rfl f_law04_TrialGives_r4.eq_1
theorem e_law04_TrialGives_r5 : type_of% f_law04_TrialGives_r5.eq_1 := by_rfl f_law04_TrialGives_r5.eq_1
theorem e_law04_TrialGives_r6 : type_of% f_law04_TrialGives_r6.eq_1 := by_rfl f_law04_TrialGives_r6.eq_1
theorem e_law04_TrialGives_r7 : type_of% f_law04_TrialGives_r7.eq_1 := by_rfl f_law04_TrialGives_r7.eq_1
theorem e_law04_TrialGives_r8 : type_of% f_law04_TrialGives_r8.eq_1 := by_rfl f_law04_TrialGives_r8.eq_1
theorem e_law04_TrialGives : type_of% f_law04_TrialGives.eq_1 := by_rfl f_law04_TrialGives.eq_1
theorem ok_law04_TrialGives : fnC Try.prog a_law04_TrialGives Try.f8 = some f_law04_TrialGives := by kernel_rfl

/-! 9 fumarole/fumarolelaw04.TrialCapacities -/
def f_law04_TrialCapacities_r0 : List Abs.Op := [
  ⟨some 4, none, false, .boxi (.t 0)⟩,
  ⟨some 8, none, false, .mv (.c (.bool false))⟩]

def f_law04_TrialCapacities_r1 : List Abs.Op := [
  ⟨some 20, none, true, .fadr 6 (.t 4)⟩,
  ⟨some 21, none, true, .ld false 1 (.t 20)⟩,
  ⟨some 22, none, true, .lenS (.t 21)⟩,
  ⟨some 23, none, true, .bin .gtr (.t 22) (.c (.int .i64 20))⟩,
  ⟨some 24, none, true, .mv (.t 23)⟩,
  ⟨some 25, some (24, false), true, .ld true 7 (.t 4)⟩,
  ⟨some 26, some (24, false), true, .mv (.t 1)⟩,
  ⟨some 27, some (24, false), true, .call false (.c (.fn i_ref04_In [] [])) [(.t 26), (.c (.int .i64 (-2000000000))), (.c (.int .i64 2000000000))]⟩,
  ⟨some 28, some (24, false), true, .un .not (.t 27)⟩,
  ⟨some 29, some (24, false), false, .call false (.c (.fn i_law04_asked [] [])) [(.t 25), (.t 28), (.c (.int .i64 2))]⟩,
  ⟨some 30, some (24, false), false, .bin .neq (.t 29) (.c (.int .i64 0))⟩,
  ⟨some 31, none, false, .pick (.t 24) (.c (.bool true)) (.t 30)⟩]

def f_law04_TrialCapacities_r2 : List Abs.Op := [
  ⟨some 32, none, false, .call false (.c (.fn i_law04_wakes [] [])) []⟩,
  ⟨some 8, none, false, .mv (.t 32)⟩]

def f_law04_TrialCapacities_r3 : List Abs.Op := [
  ⟨some 33, none, false, .ld true 7 (.t 4)⟩,
  ⟨some 34, none, false, .call false (.c (.fn i_law04_Test [] [])) [(.t 33)]⟩,
  ⟨some 9, none, false, .alcv [] [(.int .i64 0), (.int .i64 0), (.int .i64 0), (.int .i64 0), (.int .i64 0), (.int .i64 0), .nils]⟩,
  ⟨none, none, false, .stv 9 [] 7 9 (.t 34)⟩]

def f_law04_TrialCapacities_r4 : List Abs.Op := [
  ⟨some 36, none, false, .ldv 9 true 7 9⟩,
  ⟨some 37, none, false, .mv (.t 1)⟩,
  ⟨some 38, none, false, .call false (.c (.fn i_trial_Capacity [] [])) [(.t 36), (.t 37)]⟩,
  ⟨some 35, none, false, .mv (.t 38)⟩,
  ⟨some 39, none, false, .ext (.t 35) 0⟩,
  ⟨some 40, none, false, .ext (.t 35) 1⟩,
  ⟨some 41, none, false, .ext (.t 35) 2⟩,
  ⟨some 10, none, false, .mv (.t 39)⟩,
  ⟨some 11, none, false, .mv (.t 40)⟩,
  ⟨some 12, none, false, .mv (.t 41)⟩]

def f_law04_TrialCapacities_r5 : List Abs.Op := [
  ⟨some 42, none, false, .mv (.t 12)⟩,
  ⟨some 43, none, false, .bin .neq (.t 42) (.c (.int .i64 0))⟩,
  ⟨some 44, none, false, .mv (.t 43)⟩,
  ⟨some 45, some (44, false), false, .mv (.t 10)⟩,
  ⟨some 46, some (44, false), false, .bin .lss (.t 45) (.c (.int .i64 (-1)))⟩,
  ⟨some 47, none, false, .pick (.t 44) (.c (.bool true)) (.t 46)⟩,
  ⟨some 48, none, false, .mv (.t 47)⟩,
  ⟨some 49, some (48, false), false, .mv (.t 11)⟩,
  ⟨some 50, some (48, false), false, .mv (.t 10)⟩,
  ⟨some 51, some (48, false), false, .bin .lss (.t 49) (.t 50)⟩,
  ⟨some 52, none, false, .pick (.t 48) (.c (.bool true)) (.t 51)⟩,
  ⟨some 53, none, false, .mv (.t 52)⟩,
  ⟨some 54, some (53, false), false, .mv (.t 11)⟩,
  ⟨some 55, some (53, false), false, .bin .gtr (.t 54) (.c (.int .i64 1000))⟩,
  ⟨some 56, none, false, .pick (.t 53) (.c (.bool true)) (.t 55)⟩]

def f_law04_TrialCapacities_r6 : List Abs.Op := [
  ⟨some 8, none, false, .mv (.c (.bool false))⟩]

def f_law04_TrialCapacities_r7 : List Abs.Op := [
  ⟨some 57, none, false, .mv (.t 3)⟩,
  ⟨some 58, none, false, .cvt .i64 (.t 57)⟩,
  ⟨some 59, none, false, .bin .rem (.t 58) (.c (.int .i64 1001))⟩,
  ⟨some 13, none, false, .mv (.t 59)⟩]

def f_law04_TrialCapacities_r8 : List Abs.Op := [
  ⟨some 61, none, false, .ldv 9 true 7 9⟩,
  ⟨some 62, none, false, .mv (.t 13)⟩,
  ⟨some 63, none, false, .call false (.c (.fn i_trial_Drawdown [] [])) [(.t 61), (.t 62)]⟩,
  ⟨some 60, none, false, .mv (.t 63)⟩,
  ⟨some 64, none, false, .ext (.t 60) 0⟩,
  ⟨some 65, none, false, .ext (.t 60) 1⟩,
  ⟨some 14, none, false, .alcv [] [(.int .i64 0), (.int .i64 0)]⟩,
  ⟨none, none, false, .stv 14 [] 2 14 (.t 64)⟩,
  ⟨some 15, none, false, .mv (.t 65)⟩]

def f_law04_TrialCapacities_r9 : List Abs.Op := [
  ⟨some 66, none, false, .mv (.t 15)⟩,
  ⟨some 67, none, false, .bin .neq (.t 66) (.c (.int .i64 0))⟩,
  ⟨some 68, none, false, .mv (.t 67)⟩,
  ⟨some 69, some (68, false), false, .fadr 1 (.t 14)⟩,
  ⟨some 70, some (68, false), false, .ldv 14 false 1 69⟩,
  ⟨some 71, some (68, false), false, .mv (.t 1)⟩,
  ⟨some 72, some (68, false), false, .bin .leq (.t 70) (.t 71)⟩,
  ⟨some 73, some (68, false), false, .mv (.t 13)⟩,
  ⟨some 74, some (68, false), false, .mv (.t 10)⟩,
  ⟨some 75, some (68, false), false, .bin .leq (.t 73) (.t 74)⟩,
  ⟨some 76, some (68, false), false, .eqv false [none] true (.t 72) (.t 75)⟩,
  ⟨some 77, none, false, .pick (.t 68) (.c (.bool true)) (.t 76)⟩,
  ⟨some 78, none, false, .mv (.t 77)⟩,
  ⟨some 79, some (78, false), false, .fadr 0 (.t 14)⟩,
  ⟨some 80, some (78, false), false, .ldv 14 false 1 79⟩,
  ⟨some 81, some (78, false), false, .mv (.t 1)⟩,
  ⟨some 82, some (78, false), false, .bin .leq (.t 80) (.t 81)⟩,
  ⟨some 83, some (78, false), false, .mv (.t 13)⟩,
  ⟨some 84, some (78, false), false, .mv (.t 11)⟩,
  ⟨some 85, some (78, false), false, .bin .leq (.t 83) (.t 84)⟩,
  ⟨some 86, some (78, false), false, .eqv false [none] true (.t 82) (.t 85)⟩,
  ⟨some 87, none, false, .pick (.t 78) (.c (.bool true)) (.t 86)⟩]

def f_law04_TrialCapacities_r10 : List Abs.Op := [
  ⟨some 8, none, false, .mv (.c (.bool false))⟩]

def f_law04_TrialCapacities_r11 : List Abs.Op := [
  ⟨some 88, none, false, .mv (.t 10)⟩,
  ⟨some 89, none, false, .bin .lss (.t 88) (.c (.int .i64 1000))⟩]

def f_law04_TrialCapacities_r12 : List Abs.Op := [
  ⟨some 91, none, false, .ldv 9 true 7 9⟩,
  ⟨some 92, none, false, .mv (.t 10)⟩,
  ⟨some 93, none, false, .bin .add (.t 92) (.c (.int .i64 1))⟩,
  ⟨some 94, none, false, .call false (.c (.fn i_trial_Drawdown [] [])) [(.t 91), (.t 93)]⟩,
  ⟨some 90, none, false, .mv (.t 94)⟩,
  ⟨some 95, none, false, .ext (.t 90) 0⟩,
  ⟨some 96, none, false, .ext (.t 90) 1⟩,
  ⟨some 16, none, false, .alcv [] [(.int .i64 0), (.int .i64 0)]⟩,
  ⟨none, none, false, .stv 16 [] 2 16 (.t 95)⟩,
  ⟨some 17, none, false, .mv (.t 96)⟩]

def f_law04_TrialCapacities_r13 : List Abs.Op := [
  ⟨some 97, none, false, .mv (.t 17)⟩,
  ⟨some 98, none, false, .bin .neq (.t 97) (.c (.int .i64 0))⟩,
  ⟨some 99, none, false, .mv (.t 98)⟩,
  ⟨some 100, some (99, false), false, .fadr 1 (.t 16)⟩,
  ⟨some 101, some (99, false), false, .ldv 16 false 1 100⟩,
  ⟨some 102, some (99, false), false, .mv (.t 1)⟩,
  ⟨some 103, some (99, false), false, .bin .leq (.t 101) (.t 102)⟩,
  ⟨some 104, none, false, .pick (.t 99) (.c (.bool true)) (.t 103)⟩]

def f_law04_TrialCapacities_r14 : List Abs.Op := [
  ⟨some 8, none, false, .mv (.c (.bool false))⟩]

def f_law04_TrialCapacities_r15 : List Abs.Op := [
  ⟨some 105, none, false, .mv (.t 2)⟩,
  ⟨some 106, none, false, .mv (.t 1)⟩,
  ⟨some 107, none, false, .bin .lss (.t 105) (.t 106)⟩,
  ⟨some 108, none, false, .mv (.t 107)⟩,
  ⟨some 109, some (108, false), false, .mv (.t 2)⟩,
  ⟨some 110, some (108, false), false, .bin .gtr (.t 109) (.c (.int .i64 2000000000))⟩,
  ⟨some 111, none, false, .pick (.t 108) (.c (.bool true)) (.t 110)⟩]

def f_law04_TrialCapacities_r16 : List Abs.Op := [
  ⟨some 112, none, false, .call false (.c (.fn i_law04_wakes [] [])) []⟩,
  ⟨some 8, none, false, .mv (.t 112)⟩]

def f_law04_TrialCapacities_r17 : List Abs.Op := [
  ⟨some 114, none, false, .ldv 9 true 7 9⟩,
  ⟨some 115, none, false, .mv (.t 2)⟩,
  ⟨some 116, none, false, .call false (.c (.fn i_trial_Capacity [] [])) [(.t 114), (.t 115)]⟩,
  ⟨some 113, none, false, .mv (.t 116)⟩,
  ⟨some 117, none, false, .ext (.t 113) 0⟩,
  ⟨some 118, none, false, .ext (.t 113) 1⟩,
  ⟨some 119, none, false, .ext (.t 113) 2⟩,
  ⟨some 18, none, false, .mv (.t 117)⟩,
  ⟨some 19, none, false, .mv (.t 118)⟩,
  ⟨some 15, none, false, .mv (.t 119)⟩]

def f_law04_TrialCapacities_r18 : List Abs.Op := [
  ⟨some 120, none, false, .mv (.t 15)⟩,
  ⟨some 121, none, false, .bin .eql (.t 120) (.c (.int .i64 0))⟩,
  ⟨some 122, none, false, .mv (.t 121)⟩,
  ⟨some 123, some (122, true), false, .mv (.t 18)⟩,
  ⟨some 124, some (122, true), false, .mv (.t 10)⟩,
  ⟨some 125, some (122, true), false, .bin .geq (.t 123) (.t 124)⟩,
  ⟨some 126, none, false, .pick (.t 122) (.t 125) (.c (.bool false))⟩,
  ⟨some 127, none, false, .mv (.t 126)⟩,
  ⟨some 128, some (127, true), false, .mv (.t 19)⟩,
  ⟨some 129, some (127, true), false, .mv (.t 11)⟩,
  ⟨some 130, some (127, true), false, .bin .geq (.t 128) (.t 129)⟩,
  ⟨some 131, none, false, .pick (.t 127) (.t 130) (.c (.bool false))⟩,
  ⟨some 132, none, false, .mv (.t 131)⟩,
  ⟨some 133, some (132, true), false, .call false (.c (.fn i_law04_wakes [] [])) []⟩,
  ⟨some 134, none, false, .pick (.t 132) (.t 133) (.c (.bool false))⟩,
  ⟨some 8, none, false, .mv (.t 134)⟩]

def a_law04_TrialCapacities : Ann := ⟨[(18, [8]), (17, [10, 11, 15, 18, 19]), (16, [8]), (15, [2, 9, 10, 11, 111]), (14, [8]), (13, [1, 2, 9, 10, 11, 104]), (12, [1, 2, 9, 10, 11, 16, 17]), (11, [1, 2, 9, 10, 11, 89]), (10, [8]), (9, [1, 2, 9, 10, 11, 87]), (8, [1, 2, 9, 10, 11, 13, 14, 15]), (7, [1, 2, 9, 10, 11, 13]), (6, [8]), (5, [1, 2, 3, 9, 10, 11, 56]), (4, [1, 2, 3, 9, 10, 11, 12]), (3, [1, 2, 3, 9]), (2, [8]), (1, [1, 2, 3, 4, 31]), (0, [1, 2, 3, 4])], [], [], [9, 14, 16], [9, 14, 16], [], [], [], [], []⟩
def f_law04_TrialCapacities : Abs.Fn := ⟨4, [.t 8],
  (.seq (.reg [1, 2, 3, 4] f_law04_TrialCapacities_r0) (.seq (.seq (.reg [1, 2, 3, 4, 31] f_law04_TrialCapacities_r1) (.ite (.t 31) (.seq (.reg [8] f_law04_TrialCapacities_r2) .ret) .nop)) (.seq (.reg [1, 2, 3, 9] f_law04_TrialCapacities_r3) (.seq (.reg [1, 2, 3, 9, 10, 11, 12] f_law04_TrialCapacities_r4) (.seq (.seq (.reg [1, 2, 3, 9, 10, 11, 56] f_law04_TrialCapacities_r5) (.ite (.t 56) (.seq (.reg [8] f_law04_TrialCapacities_r6) .ret) .nop)) (.seq (.reg [1, 2, 9, 10, 11, 13] f_law04_TrialCapacities_r7) (.seq (.reg [1, 2, 9, 10, 11, 13, 14, 15] f_law04_TrialCapacities_r8) (.seq (.seq (.reg [1, 2, 9, 10, 11, 87] f_law04_TrialCapacities_r9) (.ite (.t 87) (.seq (.reg [8] f_law04_TrialCapacities_r10) .ret) .nop)) (.seq (.seq (.reg [1, 2, 9, 10, 11, 89] f_law04_TrialCapacities_r11) (.ite (.t 89) (.seq (.reg [1, 2, 9, 10, 11, 16, 17] f_law04_TrialCapacities_r12) (.seq (.reg [1, 2, 9, 10, 11, 104] f_law04_TrialCapacities_r13) (.ite (.t 104) (.seq (.reg [8] f_law04_TrialCapacities_r14) .ret) .nop))) .nop)) (.seq (.seq (.reg [2, 9, 10, 11, 111] f_law04_TrialCapacities_r15) (.ite (.t 111) (.seq (.reg [8] f_law04_TrialCapacities_r16) .ret) .nop)) (.seq (.reg [10, 11, 15, 18, 19] f_law04_TrialCapacities_r17) (.seq (.reg [8] f_law04_TrialCapacities_r18) .ret))))))))))))⟩

theorem e_law04_TrialCapacities_r0 : type_of% f_law04_TrialCapacities_r0.eq_1 := by_rfl f_law04_TrialCapacities_r0.eq_1
theorem e_law04_TrialCapacities_r1 : type_of% f_law04_TrialCapacities_r1.eq_1 := by_rfl f_law04_TrialCapacities_r1.eq_1
theorem e_law04_TrialCapacities_r2 : type_of% f_law04_TrialCapacities_r2.eq_1 := by_rfl f_law04_TrialCapacities_r2.eq_1
theorem e_law04_TrialCapacities_r3 : type_of% f_law04_TrialCapacities_r3.eq_1 := by_rfl f_law04_TrialCapacities_r3.eq_1
theorem e_law04_TrialCapacities_r4 : type_of% f_law04_TrialCapacities_r4.eq_1 := by_rfl f_law04_TrialCapacities_r4.eq_1
theorem e_law04_TrialCapacities_r5 : type_of% f_law04_TrialCapacities_r5.eq_1 := by_rfl f_law04_TrialCapacities_r5.eq_1
theorem e_law04_TrialCapacities_r6 : type_of% f_law04_TrialCapacities_r6.eq_1 := by_rfl f_law04_TrialCapacities_r6.eq_1
theorem e_law04_TrialCapacities_r7 : type_of% f_law04_TrialCapacities_r7.eq_1 := by_rfl f_law04_TrialCapacities_r7.eq_1
theorem e_law04_TrialCapacities_r8 : type_of% f_law04_TrialCapacities_r8.eq_1 := by_rfl f_law04_TrialCapacities_r8.eq_1
theorem e_law04_TrialCapacities_r9 : type_of% f_law04_TrialCapacities_r9.eq_1 := by_rfl f_law04_TrialCapacities_r9.eq_1
theorem e_law04_TrialCapacities_r10 : type_of% f_law04_TrialCapacities_r10.eq_1 := by_rfl f_law04_TrialCapacities_r10.eq_1
theorem e_law04_TrialCapacities_r11 : type_of% f_law04_TrialCapacities_r11.eq_1 := by_rfl f_law04_TrialCapacities_r11.eq_1
theorem e_law04_TrialCapacities_r12 : type_of% f_law04_TrialCapacities_r12.eq_1 := by_rfl f_law04_TrialCapacities_r12.eq_1
theorem e_law04_TrialCapacities_r13 : type_of% f_law04_TrialCapacities_r13.eq_1 := by_rfl f_law04_TrialCapacities_r13.eq_1
theorem e_law04_TrialCapacities_r14 : type_of% f_law04_TrialCapacities_r14.eq_1 := by_rfl f_law04_TrialCapacities_r14.eq_1
theorem e_law04_TrialCapacities_r15 : type_of% f_law04_TrialCapacities_r15.eq_1 := by_rfl f_law04_TrialCapacities_r15.eq_1
theorem e_law04_TrialCapacities_r16 : type_of% f_law04_TrialCapacities_r16.eq_1 := by_rfl f_law04_TrialCapacities_r16.eq_1
theorem e_law04_TrialCapacities_r17 : type_of% f_law04_TrialCapacities_r17.eq_1 := by_rfl f_law04_TrialCapacities_r17.eq_1
theorem e_law04_TrialCapacities_r18 : type_of% f_law04_TrialCapacities_r18.eq_1 := by_rfl f_law04_TrialCapacities_r18.eq_1
theorem e_law04_TrialCapacities : type_of% f_law04_TrialCapacities.eq_1 := by_rfl f_law04_TrialCapacities.eq_1
theorem ok_law04_TrialCapacities : fnC Try.prog a_law04_TrialCapacities Try.f9 = some f_law04_TrialCapacities := by kernel_rfl

/-! 11 fumarole/fumarolelaw04.TrialFails -/
def f_law04_TrialFails_r0 : List Abs.Op := [
  ⟨some 1, none, false, .boxi (.t 0)⟩,
  ⟨some 2, none, false, .mv (.c (.bool false))⟩]

def f_law04_TrialFails_r1 : List Abs.Op := [
  ⟨some 10, none, false, .fadr 6 (.t 1)⟩,
  ⟨some 11, none, false, .ld false 1 (.t 10)⟩,
  ⟨some 12, none, false, .lenS (.t 11)⟩,
  ⟨some 13, none, false, .bin .gtr (.t 12) (.c (.int .i64 20))⟩]

def f_law04_TrialFails_r2 : List Abs.Op := [
  ⟨some 14, none, false, .call false (.c (.fn i_law04_wakes [] [])) []⟩,
  ⟨some 2, none, false, .mv (.t 14)⟩]

def f_law04_TrialFails_r3 : List Abs.Op := [
  ⟨some 16, none, false, .ld true 7 (.t 1)⟩,
  ⟨some 17, none, false, .call false (.c (.fn i_law04_Test [] [])) [(.t 16)]⟩,
  ⟨some 18, none, false, .call false (.c (.fn i_trial_Blame [] [])) [(.t 17)]⟩,
  ⟨some 15, none, false, .mv (.t 18)⟩,
  ⟨some 19, none, false, .ext (.t 15) 0⟩,
  ⟨some 20, none, false, .ext (.t 15) 1⟩,
  ⟨some 3, none, false, .mv (.t 19)⟩,
  ⟨some 4, none, false, .mv (.t 20)⟩]

def f_law04_TrialFails_r4 : List Abs.Op := [
  ⟨some 22, none, false, .ld true 7 (.t 1)⟩,
  ⟨some 23, none, false, .call false (.c (.fn i_law04_Test [] [])) [(.t 22)]⟩,
  ⟨some 24, none, false, .call false (.c (.fn i_trial_Conflicts [] [])) [(.t 23)]⟩,
  ⟨some 21, none, false, .mv (.t 24)⟩,
  ⟨some 25, none, false, .ext (.t 21) 0⟩,
  ⟨some 26, none, false, .ext (.t 21) 1⟩,
  ⟨some 5, none, false, .mv (.t 25)⟩,
  ⟨some 6, none, false, .mv (.t 26)⟩]

def f_law04_TrialFails_r5 : List Abs.Op := [
  ⟨some 27, none, false, .ld true 7 (.t 1)⟩,
  ⟨some 28, none, false, .call false (.c (.fn i_law04_asked [] [])) [(.t 27), (.c (.bool false)), (.c (.int .i64 0))]⟩,
  ⟨some 7, none, false, .mv (.t 28)⟩]

def f_law04_TrialFails_r6 : List Abs.Op := [
  ⟨some 29, none, false, .mv (.t 7)⟩,
  ⟨some 30, none, false, .bin .neq (.t 29) (.c (.int .i64 7))⟩]

def f_law04_TrialFails_r7 : List Abs.Op := [
  ⟨some 31, none, false, .mv (.t 7)⟩,
  ⟨some 32, none, false, .bin .eql (.t 31) (.c (.int .i64 0))⟩]

def f_law04_TrialFails_r8 : List Abs.Op := [
  ⟨some 7, none, false, .mv (.c (.int .i64 7))⟩]

def f_law04_TrialFails_r9 : List Abs.Op := [
  ⟨some 33, none, false, .mv (.t 4)⟩,
  ⟨some 34, none, false, .mv (.t 7)⟩,
  ⟨some 35, none, false, .bin .eql (.t 33) (.t 34)⟩,
  ⟨some 36, none, false, .mv (.t 35)⟩,
  ⟨some 37, some (36, true), false, .mv (.t 6)⟩,
  ⟨some 38, some (36, true), false, .mv (.t 7)⟩,
  ⟨some 39, some (36, true), false, .bin .eql (.t 37) (.t 38)⟩,
  ⟨some 40, none, false, .pick (.t 36) (.t 39) (.c (.bool false))⟩,
  ⟨some 41, none, false, .mv (.t 40)⟩,
  ⟨some 42, some (41, true), false, .mv (.t 3)⟩,
  ⟨some 43, some (41, true), false, .bin .eql (.t 42) (.c (.int .i64 0))⟩,
  ⟨some 44, none, false, .pick (.t 41) (.t 43) (.c (.bool false))⟩,
  ⟨some 45, none, false, .mv (.t 44)⟩,
  ⟨some 46, some (45, true), false, .mv (.t 5)⟩,
  ⟨some 47, some (45, true), false, .lenS (.t 46)⟩,
  ⟨some 48, some (45, true), false, .bin .eql (.t 47) (.c (.int .i64 0))⟩,
  ⟨some 49, none, false, .pick (.t 45) (.t 48) (.c (.bool false))⟩,
  ⟨some 50, none, false, .mv (.t 49)⟩,
  ⟨some 51, some (50, true), false, .call false (.c (.fn i_law04_wakes [] [])) []⟩,
  ⟨some 52, none, false, .pick (.t 50) (.t 51) (.c (.bool false))⟩,
  ⟨some 2, none, false, .mv (.t 52)⟩]

def f_law04_TrialFails_r10 : List Abs.Op := [
  ⟨some 53, none, false, .ld true 7 (.t 1)⟩,
  ⟨some 54, none, false, .call false (.c (.fn i_ref04_Conflicts [] [])) [(.t 53)]⟩,
  ⟨some 8, none, false, .mv (.t 54)⟩]

def f_law04_TrialFails_r11 : List Abs.Op := [
  ⟨some 55, none, false, .mv (.t 4)⟩,
  ⟨some 56, none, false, .bin .neq (.t 55) (.c (.int .i64 0))⟩,
  ⟨some 57, none, false, .mv (.t 56)⟩,
  ⟨some 58, some (57, false), false, .mv (.t 6)⟩,
  ⟨some 59, some (57, false), false, .bin .neq (.t 58) (.c (.int .i64 0))⟩,
  ⟨some 60, none, false, .pick (.t 57) (.c (.bool true)) (.t 59)⟩,
  ⟨some 61, none, false, .mv (.t 60)⟩,
  ⟨some 62, some (61, false), false, .mv (.t 3)⟩,
  ⟨some 63, some (61, false), false, .ld true 7 (.t 1)⟩,
  ⟨some 64, some (61, false), false, .call false (.c (.fn i_ref04_Blame [] [])) [(.t 63)]⟩,
  ⟨some 65, some (61, false), false, .bin .neq (.t 62) (.t 64)⟩,
  ⟨some 66, none, false, .pick (.t 61) (.c (.bool true)) (.t 65)⟩,
  ⟨some 67, none, false, .mv (.t 66)⟩,
  ⟨some 68, some (67, false), false, .mv (.t 5)⟩,
  ⟨some 69, some (67, false), false, .lenS (.t 68)⟩,
  ⟨some 70, some (67, false), false, .mv (.t 8)⟩,
  ⟨some 71, some (67, false), false, .lenS (.t 70)⟩,
  ⟨some 72, some (67, false), false, .bin .neq (.t 69) (.t 71)⟩,
  ⟨some 73, none, false, .pick (.t 67) (.c (.bool true)) (.t 72)⟩]

def f_law04_TrialFails_r12 : List Abs.Op := [
  ⟨some 2, none, false, .mv (.c (.bool false))⟩]

def f_law04_TrialFails_r13 : List Abs.Op := [
  ⟨some 9, none, false, .mv (.c (.int .i64 0))⟩]

def f_law04_TrialFails_r14 : List Abs.Op := [
  ⟨some 74, none, false, .mv (.t 9)⟩,
  ⟨some 75, none, false, .mv (.t 8)⟩,
  ⟨some 76, none, false, .lenS (.t 75)⟩,
  ⟨some 77, none, false, .bin .lss (.t 74) (.t 76)⟩]

def f_law04_TrialFails_r15 : List Abs.Op := [
  ⟨some 80, none, true, .mv (.t 5)⟩,
  ⟨some 81, none, true, .mv (.t 9)⟩,
  ⟨some 82, none, true, .idxS 2 (.t 80) (.t 81)⟩,
  ⟨some 83, none, true, .ld true 2 (.t 82)⟩,
  ⟨some 84, none, true, .mv (.t 8)⟩,
  ⟨some 85, none, true, .mv (.t 9)⟩,
  ⟨some 86, none, true, .idxS 2 (.t 84) (.t 85)⟩,
  ⟨some 87, none, true, .ld true 2 (.t 86)⟩,
  ⟨some 88, none, false, .eqv true [some .i64, some .i64] true (.t 83) (.t 87)⟩]

def f_law04_TrialFails_r16 : List Abs.Op := [
  ⟨some 2, none, false, .mv (.c (.bool false))⟩]

def f_law04_TrialFails_r17 : List Abs.Op := [
  ⟨some 78, none, false, .mv (.t 9)⟩,
  ⟨some 79, none, false, .bin .add (.t 78) (.c (.int .i64 1))⟩,
  ⟨some 9, none, false, .mv (.t 79)⟩]

def f_law04_TrialFails_l18 : Abs.Cmd :=
  (.seq (.seq (.reg [5, 8, 9, 77] f_law04_TrialFails_r14) (.ite (.t 77) .nop (.exit 0))) (.seq (.blk 1 (.seq (.reg [5, 8, 9, 88] f_law04_TrialFails_r15) (.ite (.t 88) (.seq (.reg [2] f_law04_TrialFails_r16) .ret) .nop))) (.reg [5, 8, 9] f_law04_TrialFails_r17)))

def f_law04_TrialFails_r19 : List Abs.Op := [
  ⟨some 89, none, false, .call false (.c (.fn i_law04_wakes [] [])) []⟩,
  ⟨some 2, none, false, .mv (.t 89)⟩]

def a_law04_TrialFails : Ann := ⟨[(18, [2]), (15, [5, 8, 9]), (17, [2]), (16, [5, 8, 9, 88]), (14, [5, 8, 9, 77]), (13, [5, 8, 9]), (12, [2]), (11, [5, 8, 73]), (10, [1, 3, 4, 5, 6, 8]), (9, [2]), (8, [3, 4, 5, 6, 7]), (7, [3, 4, 5, 6, 7, 32]), (6, [1, 3, 4, 5, 6, 7, 30]), (5, [1, 3, 4, 5, 6, 7]), (4, [1, 3, 4, 5, 6]), (3, [1, 3, 4]), (2, [2]), (1, [1, 13]), (0, [1])], [(0, [5, 8, 9])], [], [], [], [], [], [], [], []⟩
def f_law04_TrialFails : Abs.Fn := ⟨1, [.t 2],
  (.seq (.reg [1] f_law04_TrialFails_r0) (.seq (.seq (.reg [1, 13] f_law04_TrialFails_r1) (.ite (.t 13) (.seq (.reg [2] f_law04_TrialFails_r2) .ret) .nop)) (.seq (.reg [1, 3, 4] f_law04_TrialFails_r3) (.seq (.reg [1, 3, 4, 5, 6] f_law04_TrialFails_r4) (.seq (.reg [1, 3, 4, 5, 6, 7] f_law04_TrialFails_r5) (.seq (.seq (.reg [1, 3, 4, 5, 6, 7, 30] f_law04_TrialFails_r6) (.ite (.t 30) (.seq (.seq (.reg [3, 4, 5, 6, 7, 32] f_law04_TrialFails_r7) (.ite (.t 32) (.reg [3, 4, 5, 6, 7] f_law04_TrialFails_r8) .nop)) (.seq (.reg [2] f_law04_TrialFails_r9) .ret)) .nop)) (.seq (.reg [1, 3, 4, 5, 6, 8] f_law04_TrialFails_r10) (.seq (.seq (.reg [5, 8, 73] f_law04_TrialFails_r11) (.ite (.t 73) (.seq (.reg [2] f_law04_TrialFails_r12) .ret) .nop)) (.seq (.seq (.reg [5, 8, 9] f_law04_TrialFails_r13) (.blk 0 (.loop [5, 8, 9] false f_law04_TrialFails_l18))) (.seq (.reg [2] f_law04_TrialFails_r19) .ret))))))))))⟩

theorem e_law04_TrialFails_r0 : type_of% f_law04_TrialFails_r0.eq_1 := by_rfl f_law04_TrialFails_r0.eq_1
theorem e_law04_TrialFails_r1 : type_of% f_law04_TrialFails_r1.eq_1 := by_rfl f_law04_TrialFails_r1.eq_1
theorem e_law04_TrialFails_r2 : type_of% f_law04_TrialFails_r2.eq_1 := by_rfl f_law04_TrialFails_r2.eq_1
theorem e_law04_TrialFails_r3 : type_of% f_law04_TrialFails_r3.eq_1 := by_rfl f_law04_TrialFails_r3.eq_1
theorem e_law04_TrialFails_r4 : type_of% f_law04_TrialFails_r4.eq_1 := by_rfl f_law04_TrialFails_r4.eq_1
theorem e_law04_TrialFails_r5 : type_of% f_law04_TrialFails_r5.eq_1 := by_rfl f_law04_TrialFails_r5.eq_1
theorem e_law04_TrialFails_r6 : type_of% f_law04_TrialFails_r6.eq_1 := by_rfl f_law04_TrialFails_r6.eq_1
theorem e_law04_TrialFails_r7 : type_of% f_law04_TrialFails_r7.eq_1 := by_rfl f_law04_TrialFails_r7.eq_1
theorem e_law04_TrialFails_r8 : type_of% f_law04_TrialFails_r8.eq_1 := by_rfl f_law04_TrialFails_r8.eq_1
theorem e_law04_TrialFails_r9 : type_of% f_law04_TrialFails_r9.eq_1 := by_rfl f_law04_TrialFails_r9.eq_1
theorem e_law04_TrialFails_r10 : type_of% f_law04_TrialFails_r10.eq_1 := by_rfl f_law04_TrialFails_r10.eq_1
theorem e_law04_TrialFails_r11 : type_of% f_law04_TrialFails_r11.eq_1 := by_rfl f_law04_TrialFails_r11.eq_1
theorem e_law04_TrialFails_r12 : type_of% f_law04_TrialFails_r12.eq_1 := by_rfl f_law04_TrialFails_r12.eq_1
theorem e_law04_TrialFails_r13 : type_of% f_law04_TrialFails_r13.eq_1 := by_rfl f_law04_TrialFails_r13.eq_1
theorem e_law04_TrialFails_r14 : type_of% f_law04_TrialFails_r14.eq_1 := by_rfl f_law04_TrialFails_r14.eq_1
theorem e_law04_TrialFails_r15 : type_of% f_law04_TrialFails_r15.eq_1 := by_rfl f_law04_TrialFails_r15.eq_1
theorem e_law04_TrialFails_r16 : type_of% f_law04_TrialFails_r16.eq_1 := by_rfl f_law04_TrialFails_r16.eq_1
theorem e_law04_TrialFails_r17 : type_of% f_law04_TrialFails_r17.eq_1 := by_rfl f_law04_TrialFails_r17.eq_1
theorem e_law04_TrialFails_l18 : type_of% f_law04_TrialFails_l18.eq_1 := by_rfl f_law04_TrialFails_l18.eq_1
theorem e_law04_TrialFails_r19 : type_of% f_law04_TrialFails_r19.eq_1 := by_rfl f_law04_TrialFails_r19.eq_1
theorem e_law04_TrialFails : type_of% f_law04_TrialFails.eq_1 := by_rfl f_law04_TrialFails.eq_1
theorem ok_law04_TrialFails : fnC Try.prog a_law04_TrialFails Try.f11 = some f_law04_TrialFails := by kernel_rfl

/-! 14 fumarole/fumarolelaw04.TrialEither -/
def f_law04_TrialEither_r0 : List Abs.Op := [
  ⟨some 3, none, false, .boxi (.t 0)⟩,
  ⟨some 5, none, false, .boxi (.t 2)⟩,
  ⟨some 6, none, false, .mv (.c (.bool false))⟩]

def f_law04_TrialEither_r1 : List Abs.Op := [
  ⟨some 17, none, false, .fadr 6 (.t 3)⟩,
  ⟨some 18, none, false, .ld false 1 (.t 17)⟩,
  ⟨some 19, none, false, .lenS (.t 18)⟩,
  ⟨some 20, none, false, .bin .gtr (.t 19) (.c (.int .i64 20))⟩,
  ⟨some 21, none, false, .mv (.t 20)⟩,
  ⟨some 22, some (21, false), false, .mv (.t 1)⟩,
  ⟨some 23, some (21, false), false, .lenS (.t 22)⟩,
  ⟨some 24, some (21, false), false, .bin .gtr (.t 23) (.c (.int .i64 1700))⟩,
  ⟨some 25, none, false, .pick (.t 21) (.c (.bool true)) (.t 24)⟩,
  ⟨some 26, none, false, .mv (.t 25)⟩,
  ⟨some 27, some (26, false), false, .ld true 7 (.t 3)⟩,
  ⟨some 28, some (26, false), false, .call false (.c (.fn i_ref04_TestFault [] [])) [(.t 27)]⟩,
  ⟨some 29, some (26, false), false, .bin .neq (.t 28) (.c (.int .i64 0))⟩,
  ⟨some 30, none, false, .pick (.t 26) (.c (.bool true)) (.t 29)⟩]

def f_law04_TrialEither_r2 : List Abs.Op := [
  ⟨some 31, none, false, .call false (.c (.fn i_law04_wakes [] [])) []⟩,
  ⟨some 6, none, false, .mv (.t 31)⟩]

def f_law04_TrialEither_r3 : List Abs.Op := [
  ⟨some 32, none, false, .ld true 7 (.t 3)⟩,
  ⟨some 33, none, false, .call false (.c (.fn i_law04_Test [] [])) [(.t 32)]⟩,
  ⟨some 7, none, false, .alcv [] [(.int .i64 0), (.int .i64 0), (.int .i64 0), (.int .i64 0), (.int .i64 0), (.int .i64 0), .nils]⟩,
  ⟨none, none, false, .stv 7 [] 7 7 (.t 33)⟩]

def f_law04_TrialEither_r4 : List Abs.Op := [
  ⟨some 35, none, false, .ldv 7 true 7 7⟩,
  ⟨some 36, none, false, .call false (.c (.fn i_trial_Curves [] [])) [(.t 35)]⟩,
  ⟨some 34, none, false, .mv (.t 36)⟩,
  ⟨some 37, none, false, .ext (.t 34) 0⟩,
  ⟨some 38, none, false, .ext (.t 34) 1⟩,
  ⟨some 39, none, false, .ext (.t 34) 2⟩,
  ⟨some 40, none, false, .ext (.t 34) 3⟩,
  ⟨some 41, none, false, .ext (.t 34) 4⟩,
  ⟨some 9, none, false, .alcv [] [(.int .i64 0), (.int .i64 0)]⟩,
  ⟨some 10, none, false, .alcv [] [(.int .i64 0), (.int .i64 0)]⟩,
  ⟨some 11, none, false, .alcv [] [(.int .i64 0), (.int .i64 0)]⟩,
  ⟨some 8, none, false, .mv (.t 37)⟩,
  ⟨none, none, false, .stv 9 [] 2 9 (.t 38)⟩,
  ⟨none, none, false, .stv 10 [] 2 10 (.t 39)⟩,
  ⟨none, none, false, .stv 11 [] 2 11 (.t 40)⟩,
  ⟨some 12, none, false, .mv (.t 41)⟩]

def f_law04_TrialEither_r5 : List Abs.Op := [
  ⟨some 43, none, false, .ldv 7 true 7 7⟩,
  ⟨some 44, none, false, .call false (.c (.fn i_trial_Conflicts [] [])) [(.t 43)]⟩,
  ⟨some 42, none, false, .mv (.t 44)⟩,
  ⟨some 45, none, false, .ext (.t 42) 0⟩,
  ⟨some 46, none, false, .ext (.t 42) 1⟩,
  ⟨some 13, none, false, .mv (.t 45)⟩,
  ⟨some 14, none, false, .mv (.t 46)⟩]

def f_law04_TrialEither_r6 : List Abs.Op := [
  ⟨some 48, none, false, .ldv 7 true 7 7⟩,
  ⟨some 49, none, false, .call false (.c (.fn i_trial_Blame [] [])) [(.t 48)]⟩,
  ⟨some 47, none, false, .mv (.t 49)⟩,
  ⟨some 50, none, false, .ext (.t 47) 0⟩,
  ⟨some 51, none, false, .ext (.t 47) 1⟩,
  ⟨some 15, none, false, .mv (.t 50)⟩,
  ⟨some 16, none, false, .mv (.t 51)⟩]

def f_law04_TrialEither_r7 : List Abs.Op := [
  ⟨some 52, none, false, .mv (.t 12)⟩,
  ⟨some 53, none, false, .bin .eql (.t 52) (.c (.int .i64 0))⟩]

def f_law04_TrialEither_r8 : List Abs.Op := [
  ⟨some 54, none, true, .mv (.t 14)⟩,
  ⟨some 55, none, true, .bin .eql (.t 54) (.c (.int .i64 7))⟩,
  ⟨some 56, none, true, .mv (.t 55)⟩,
  ⟨some 57, some (56, true), true, .mv (.t 16)⟩,
  ⟨some 58, some (56, true), true, .bin .eql (.t 57) (.c (.int .i64 7))⟩,
  ⟨some 59, none, true, .pick (.t 56) (.t 58) (.c (.bool false))⟩,
  ⟨some 60, none, true, .mv (.t 59)⟩,
  ⟨some 61, some (60, true), true, .ldv 7 true 7 7⟩,
  ⟨some 62, some (60, true), true, .bsm 0 2 [] []⟩,
  ⟨some 63, some (60, true), true, .mv (.t 1)⟩,
  ⟨some 64, some (60, true), true, .apz 2 16 (.t 62) (.t 63)⟩,
  ⟨some 65, some (60, true), false, .call false (.c (.fn i_trial_ProveNone [] [])) [(.t 61), (.t 64)]⟩,
  ⟨some 66, some (60, true), false, .un .not (.t 65)⟩,
  ⟨some 67, none, false, .pick (.t 60) (.t 66) (.c (.bool false))⟩,
  ⟨some 68, none, false, .mv (.t 67)⟩,
  ⟨some 69, some (68, true), false, .call false (.c (.fn i_law04_wakes [] [])) []⟩,
  ⟨some 70, none, false, .pick (.t 68) (.t 69) (.c (.bool false))⟩,
  ⟨some 6, none, false, .mv (.t 70)⟩]

def f_law04_TrialEither_r9 : List Abs.Op := [
  ⟨some 71, none, false, .mv (.t 12)⟩,
  ⟨some 72, none, false, .bin .neq (.t 71) (.c (.int .i64 7))⟩,
  ⟨some 73, none, false, .mv (.t 72)⟩,
  ⟨some 74, some (73, false), false, .mv (.t 14)⟩,
  ⟨some 75, some (73, false), false, .bin .neq (.t 74) (.c (.int .i64 0))⟩,
  ⟨some 76, none, false, .pick (.t 73) (.c (.bool true)) (.t 75)⟩,
  ⟨some 77, none, false, .mv (.t 76)⟩,
  ⟨some 78, some (77, false), false, .mv (.t 16)⟩,
  ⟨some 79, some (77, false), false, .bin .neq (.t 78) (.c (.int .i64 0))⟩,
  ⟨some 80, none, false, .pick (.t 77) (.c (.bool true)) (.t 79)⟩,
  ⟨some 81, none, false, .mv (.t 80)⟩,
  ⟨some 82, some (81, false), false, .mv (.t 15)⟩,
  ⟨some 83, some (81, false), false, .bin .lss (.t 82) (.c (.int .i64 0))⟩,
  ⟨some 84, none, false, .pick (.t 81) (.c (.bool true)) (.t 83)⟩,
  ⟨some 85, none, false, .mv (.t 84)⟩,
  ⟨some 86, some (85, false), false, .mv (.t 15)⟩,
  ⟨some 87, some (85, false), false, .fadr 6 (.t 3)⟩,
  ⟨some 88, some (85, false), false, .ld false 1 (.t 87)⟩,
  ⟨some 89, some (85, false), false, .lenS (.t 88)⟩,
  ⟨some 90, some (85, false), false, .bin .geq (.t 86) (.t 89)⟩,
  ⟨some 91, none, false, .pick (.t 85) (.c (.bool true)) (.t 90)⟩,
  ⟨some 92, none, false, .mv (.t 91)⟩,
  ⟨some 93, some (92, false), false, .ldv 7 true 7 7⟩,
  ⟨some 94, some (92, false), false, .mv (.t 13)⟩,
  ⟨some 95, some (92, false), false, .call false (.c (.fn i_trial_ProveNone [] [])) [(.t 93), (.t 94)]⟩,
  ⟨some 96, some (92, false), false, .un .not (.t 95)⟩,
  ⟨some 97, none, false, .pick (.t 92) (.c (.bool true)) (.t 96)⟩,
  ⟨some 98, none, false, .mv (.t 97)⟩,
  ⟨some 99, some (98, false), false, .ldv 7 true 7 7⟩,
  ⟨some 100, some (98, false), false, .fadr 0 (.t 5)⟩,
  ⟨some 101, some (98, false), false, .ld false 1 (.t 100)⟩,
  ⟨some 102, some (98, false), false, .fadr 1 (.t 5)⟩,
  ⟨some 103, some (98, false), false, .ld false 1 (.t 102)⟩,
  ⟨some 104, some (98, false), false, .fadr 2 (.t 5)⟩,
  ⟨some 105, some (98, false), false, .ld false 1 (.t 104)⟩,
  ⟨some 106, some (98, false), false, .bld [(.int .i64 0), (.int .i64 0), (.int .i64 0)] [(0, 1, (.t 101)), (1, 1, (.t 103)), (2, 1, (.t 105))]⟩,
  ⟨some 107, some (98, false), false, .call false (.c (.fn i_trial_Agrees [] [])) [(.t 99), (.t 106)]⟩,
  ⟨some 108, none, false, .pick (.t 98) (.c (.bool true)) (.t 107)⟩]

def f_law04_TrialEither_r10 : List Abs.Op := [
  ⟨some 6, none, false, .mv (.c (.bool false))⟩]

def f_law04_TrialEither_r11 : List Abs.Op := [
  ⟨some 109, none, false, .fadr 6 (.t 7)⟩,
  ⟨some 110, none, false, .ldv 7 false 1 109⟩,
  ⟨some 111, none, false, .mv (.t 15)⟩,
  ⟨some 112, none, false, .slc 3 (.t 110) none (some (.t 111)) none⟩,
  ⟨some 113, none, false, .fadr 6 (.t 7)⟩,
  ⟨none, none, false, .stv 7 [] 1 113 (.t 112)⟩]

def f_law04_TrialEither_r12 : List Abs.Op := [
  ⟨some 115, none, false, .ldv 7 true 7 7⟩,
  ⟨some 116, none, false, .call false (.c (.fn i_trial_Curves [] [])) [(.t 115)]⟩,
  ⟨some 114, none, false, .mv (.t 116)⟩,
  ⟨some 117, none, false, .ext (.t 114) 0⟩,
  ⟨some 118, none, false, .ext (.t 114) 1⟩,
  ⟨some 119, none, false, .ext (.t 114) 2⟩,
  ⟨some 120, none, false, .ext (.t 114) 3⟩,
  ⟨some 121, none, false, .ext (.t 114) 4⟩,
  ⟨some 12, none, false, .mv (.t 121)⟩]

def f_law04_TrialEither_r13 : List Abs.Op := [
  ⟨some 122, none, false, .ld true 7 (.t 3)⟩,
  ⟨some 123, none, false, .call false (.c (.fn i_law04_Test [] [])) [(.t 122)]⟩,
  ⟨some 124, none, false, .fld false 6 1 (.t 123)⟩,
  ⟨some 125, none, false, .mv (.t 15)⟩,
  ⟨some 126, none, false, .bin .add (.t 125) (.c (.int .i64 1))⟩,
  ⟨some 127, none, false, .slc 3 (.t 124) none (some (.t 126)) none⟩,
  ⟨some 128, none, false, .fadr 6 (.t 7)⟩,
  ⟨none, none, false, .stv 7 [] 1 128 (.t 127)⟩]

def f_law04_TrialEither_r14 : List Abs.Op := [
  ⟨some 130, none, false, .ldv 7 true 7 7⟩,
  ⟨some 131, none, false, .call false (.c (.fn i_trial_Curves [] [])) [(.t 130)]⟩,
  ⟨some 129, none, false, .mv (.t 131)⟩,
  ⟨some 132, none, false, .ext (.t 129) 0⟩,
  ⟨some 133, none, false, .ext (.t 129) 1⟩,
  ⟨some 134, none, false, .ext (.t 129) 2⟩,
  ⟨some 135, none, false, .ext (.t 129) 3⟩,
  ⟨some 136, none, false, .ext (.t 129) 4⟩,
  ⟨some 14, none, false, .mv (.t 136)⟩]

def f_law04_TrialEither_r15 : List Abs.Op := [
  ⟨some 137, none, false, .mv (.t 12)⟩,
  ⟨some 138, none, false, .bin .eql (.t 137) (.c (.int .i64 0))⟩,
  ⟨some 139, none, false, .mv (.t 138)⟩,
  ⟨some 140, some (139, true), false, .mv (.t 14)⟩,
  ⟨some 141, some (139, true), false, .bin .eql (.t 140) (.c (.int .i64 7))⟩,
  ⟨some 142, none, false, .pick (.t 139) (.t 141) (.c (.bool false))⟩,
  ⟨some 143, none, false, .mv (.t 142)⟩,
  ⟨some 144, some (143, true), false, .call false (.c (.fn i_law04_wakes [] [])) []⟩,
  ⟨some 145, none, false, .pick (.t 143) (.t 144) (.c (.bool false))⟩,
  ⟨some 6, none, false, .mv (.t 145)⟩]

def a_law04_TrialEither : Ann := ⟨[(15, [6]), (14, [12, 14]), (13, [7, 12]), (12, [3, 7, 12, 15]), (11, [3, 7, 15]), (10, [6]), (9, [3, 7, 15, 108]), (8, [6]), (7, [1, 3, 5, 7, 12, 13, 14, 15, 16, 53]), (6, [1, 3, 5, 7, 12, 13, 14, 15, 16]), (5, [1, 3, 5, 7, 12, 13, 14]), (4, [1, 3, 5, 7, 12]), (3, [1, 3, 5, 7]), (2, [6]), (1, [1, 3, 5, 30]), (0, [1, 3, 5])], [], [], [7, 9, 10, 11, 62], [7, 9, 10, 11], [], [8010], [], [], []⟩
def f_law04_TrialEither : Abs.Fn := ⟨3, [.t 6],
  (.seq (.reg [1, 3, 5] f_law04_TrialEither_r0) (.seq (.seq (.reg [1, 3, 5, 30] f_law04_TrialEither_r1) (.ite (.t 30) (.seq (.reg [6] f_law04_TrialEither_r2) .ret) .nop)) (.seq (.reg [1, 3, 5, 7] f_law04_TrialEither_r3) (.seq (.reg [1, 3, 5, 7, 12] f_law04_TrialEither_r4) (.seq (.reg [1, 3, 5, 7, 12, 13, 14] f_law04_TrialEither_r5) (.seq (.reg [1, 3, 5, 7, 12, 13, 14, 15, 16] f_law04_TrialEither_r6) (.seq (.seq (.reg [1, 3, 5, 7, 12, 13, 14, 15, 16, 53] f_law04_TrialEither_r7) (.ite (.t 53) (.seq (.reg [6] f_law04_TrialEither_r8) .ret) .nop)) (.seq (.seq (.reg [3, 7, 15, 108] f_law04_TrialEither_r9) (.ite (.t 108) (.seq (.reg [6] f_law04_TrialEither_r10) .ret) .nop)) (.seq (.reg [3, 7, 15] f_law04_TrialEither_r11) (.seq (.reg [3, 7, 12, 15] f_law04_TrialEither_r12) (.seq (.reg [7, 12] f_law04_TrialEither_r13) (.seq (.reg [12, 14] f_law04_TrialEither_r14) (.seq (.reg [6] f_law04_TrialEither_r15) .ret)))))))))))))⟩

theorem e_law04_TrialEither_r0 : type_of% f_law04_TrialEither_r0.eq_1 := by_rfl f_law04_TrialEither_r0.eq_1
theorem e_law04_TrialEither_r1 : type_of% f_law04_TrialEither_r1.eq_1 := by_rfl f_law04_TrialEither_r1.eq_1
theorem e_law04_TrialEither_r2 : type_of% f_law04_TrialEither_r2.eq_1 := by_rfl f_law04_TrialEither_r2.eq_1
theorem e_law04_TrialEither_r3 : type_of% f_law04_TrialEither_r3.eq_1 := by_rfl f_law04_TrialEither_r3.eq_1
theorem e_law04_TrialEither_r4 : type_of% f_law04_TrialEither_r4.eq_1 := by_rfl f_law04_TrialEither_r4.eq_1
theorem e_law04_TrialEither_r5 : type_of% f_law04_TrialEither_r5.eq_1 := by_rfl f_law04_TrialEither_r5.eq_1
theorem e_law04_TrialEither_r6 : type_of% f_law04_TrialEither_r6.eq_1 := by_rfl f_law04_TrialEither_r6.eq_1
theorem e_law04_TrialEither_r7 : type_of% f_law04_TrialEither_r7.eq_1 := by_rfl f_law04_TrialEither_r7.eq_1
theorem e_law04_TrialEither_r8 : type_of% f_law04_TrialEither_r8.eq_1 := by_rfl f_law04_TrialEither_r8.eq_1
theorem e_law04_TrialEither_r9 : type_of% f_law04_TrialEither_r9.eq_1 := by_rfl f_law04_TrialEither_r9.eq_1
theorem e_law04_TrialEither_r10 : type_of% f_law04_TrialEither_r10.eq_1 := by_rfl f_law04_TrialEither_r10.eq_1
theorem e_law04_TrialEither_r11 : type_of% f_law04_TrialEither_r11.eq_1 := by_rfl f_law04_TrialEither_r11.eq_1
theorem e_law04_TrialEither_r12 : type_of% f_law04_TrialEither_r12.eq_1 := by_rfl f_law04_TrialEither_r12.eq_1
theorem e_law04_TrialEither_r13 : type_of% f_law04_TrialEither_r13.eq_1 := by_rfl f_law04_TrialEither_r13.eq_1
theorem e_law04_TrialEither_r14 : type_of% f_law04_TrialEither_r14.eq_1 := by_rfl f_law04_TrialEither_r14.eq_1
theorem e_law04_TrialEither_r15 : type_of% f_law04_TrialEither_r15.eq_1 := by_rfl f_law04_TrialEither_r15.eq_1
theorem e_law04_TrialEither : type_of% f_law04_TrialEither.eq_1 := by_rfl f_law04_TrialEither.eq_1
theorem ok_law04_TrialEither : fnC Try.prog a_law04_TrialEither Try.f14 = some f_law04_TrialEither := by kernel_rfl

/-! 18 fumarole/fumarolelaw04.wakes -/
def f_law04_wakes_r0 : List Abs.Op := [
  ⟨some 0, none, false, .mv (.c (.bool false))⟩]

def f_law04_wakes_r1 : List Abs.Op := [
  ⟨some 13, none, false, .call false (.c (.fn i_law04_well [] [])) []⟩,
  ⟨some 14, none, false, .call false (.c (.fn i_trial_Curves [] [])) [(.t 13)]⟩,
  ⟨some 12, none, false, .mv (.t 14)⟩,
  ⟨some 15, none, false, .ext (.t 12) 0⟩,
  ⟨some 16, none, false, .ext (.t 12) 1⟩,
  ⟨some 17, none, false, .ext (.t 12) 2⟩,
  ⟨some 18, none, false, .ext (.t 12) 3⟩,
  ⟨some 19, none, false, .ext (.t 12) 4⟩,
  ⟨some 2, none, false, .alcv [] [(.int .i64 0), (.int .i64 0)]⟩,
  ⟨some 3, none, false, .alcv [] [(.int .i64 0), (.int .i64 0)]⟩,
  ⟨some 4, none, false, .alcv [] [(.int .i64 0), (.int .i64 0)]⟩,
  ⟨some 1, none, false, .mv (.t 15)⟩,
  ⟨none, none, false, .stv 2 [] 2 2 (.t 16)⟩,
  ⟨none, none, false, .stv 3 [] 2 3 (.t 17)⟩,
  ⟨none, none, false, .stv 4 [] 2 4 (.t 18)⟩,
  ⟨some 5, none, false, .mv (.t 19)⟩]

def f_law04_wakes_r2 : List Abs.Op := [
  ⟨some 21, none, false, .call false (.c (.fn i_law04_well [] [])) []⟩,
  ⟨some 22, none, false, .call false (.c (.fn i_trial_Drawdown [] [])) [(.t 21), (.c (.int .i64 20))]⟩,
  ⟨some 20, none, false, .mv (.t 22)⟩,
  ⟨some 23, none, false, .ext (.t 20) 0⟩,
  ⟨some 24, none, false, .ext (.t 20) 1⟩,
  ⟨some 6, none, false, .alcv [] [(.int .i64 0), (.int .i64 0)]⟩,
  ⟨none, none, false, .stv 6 [] 2 6 (.t 23)⟩,
  ⟨some 7, none, false, .mv (.t 24)⟩]

def f_law04_wakes_r3 : List Abs.Op := [
  ⟨some 26, none, false, .call false (.c (.fn i_law04_wells [] [])) []⟩,
  ⟨some 27, none, false, .call false (.c (.fn i_trial_Groups [] [])) [(.t 26)]⟩,
  ⟨some 25, none, false, .mv (.t 27)⟩,
  ⟨some 28, none, false, .ext (.t 25) 0⟩,
  ⟨some 29, none, false, .ext (.t 25) 1⟩,
  ⟨some 8, none, false, .mv (.t 28)⟩,
  ⟨some 9, none, false, .mv (.t 29)⟩]

def f_law04_wakes_r4 : List Abs.Op := [
  ⟨some 31, none, false, .call false (.c (.fn i_law04_wells [] [])) []⟩,
  ⟨some 32, none, false, .call false (.c (.fn i_trial_Plan [] [])) [(.t 31)]⟩,
  ⟨some 30, none, false, .mv (.t 32)⟩,
  ⟨some 33, none, false, .ext (.t 30) 0⟩,
  ⟨some 34, none, false, .ext (.t 30) 1⟩,
  ⟨some 10, none, false, .mv (.t 33)⟩,
  ⟨some 11, none, false, .mv (.t 34)⟩]

def f_law04_wakes_r5 : List Abs.Op := [
  ⟨some 35, none, false, .mv (.t 5)⟩,
  ⟨some 36, none, false, .bin .eql (.t 35) (.c (.int .i64 0))⟩,
  ⟨some 37, none, false, .mv (.t 36)⟩,
  ⟨some 38, some (37, true), false, .mv (.t 7)⟩,
  ⟨some 39, some (37, true), false, .bin .eql (.t 38) (.c (.int .i64 0))⟩,
  ⟨some 40, none, false, .pick (.t 37) (.t 39) (.c (.bool false))⟩,
  ⟨some 41, none, false, .mv (.t 40)⟩,
  ⟨some 42, some (41, true), false, .mv (.t 9)⟩,
  ⟨some 43, some (41, true), false, .bin .eql (.t 42) (.c (.int .i64 0))⟩,
  ⟨some 44, none, false, .pick (.t 41) (.t 43) (.c (.bool false))⟩,
  ⟨some 45, none, false, .mv (.t 44)⟩,
  ⟨some 46, some (45, true), false, .mv (.t 11)⟩,
  ⟨some 47, some (45, true), false, .bin .eql (.t 46) (.c (.int .i64 0))⟩,
  ⟨some 48, none, false, .pick (.t 45) (.t 47) (.c (.bool false))⟩,
  ⟨some 49, none, false, .mv (.t 48)⟩,
  ⟨some 50, some (49, true), false, .mv (.t 1)⟩,
  ⟨some 51, some (49, true), false, .bin .eql (.t 50) (.c (.int .i64 4))⟩,
  ⟨some 52, none, false, .pick (.t 49) (.t 51) (.c (.bool false))⟩,
  ⟨some 53, none, false, .mv (.t 52)⟩,
  ⟨some 54, some (53, true), false, .ldv 2 true 2 2⟩,
  ⟨some 55, some (53, true), false, .bld [(.int .i64 0), (.int .i64 0)] [(0, 1, (.c (.int .i64 2))), (1, 1, (.c (.int .i64 3)))]⟩,
  ⟨some 56, some (53, true), false, .eqv true [some .i64, some .i64] false (.t 54) (.t 55)⟩,
  ⟨some 57, none, false, .pick (.t 53) (.t 56) (.c (.bool false))⟩,
  ⟨some 58, none, false, .mv (.t 57)⟩,
  ⟨some 59, some (58, true), false, .ldv 3 true 2 3⟩,
  ⟨some 60, some (58, true), false, .ldv 2 true 2 2⟩,
  ⟨some 61, some (58, true), false, .eqv true [some .i64, some .i64] false (.t 59) (.t 60)⟩,
  ⟨some 62, none, false, .pick (.t 58) (.t 61) (.c (.bool false))⟩,
  ⟨some 63, none, false, .mv (.t 62)⟩,
  ⟨some 64, some (63, true), false, .ldv 6 true 2 6⟩,
  ⟨some 65, some (63, true), false, .bld [(.int .i64 0), (.int .i64 0)] [(0, 1, (.c (.int .i64 42))), (1, 1, (.c (.int .i64 63)))]⟩,
  ⟨some 66, some (63, true), false, .eqv true [some .i64, some .i64] false (.t 64) (.t 65)⟩,
  ⟨some 67, none, false, .pick (.t 63) (.t 66) (.c (.bool false))⟩,
  ⟨some 68, none, false, .mv (.t 67)⟩,
  ⟨some 69, some (68, true), false, .mv (.t 8)⟩,
  ⟨some 70, some (68, true), false, .bsi 4 1 [(.int .i64 0), (.int .i64 0), (.int .i64 0), (.int .i64 0)] [(0, 1, (.c (.int .i64 0))), (1, 1, (.c (.int .i64 0))), (2, 1, (.c (.int .i64 2))), (3, 1, (.c (.int .i64 3)))]⟩,
  ⟨some 71, some (68, true), false, .call false (.c (.fn i_law04_ints [] [])) [(.t 69), (.t 70)]⟩,
  ⟨some 72, none, false, .pick (.t 68) (.t 71) (.c (.bool false))⟩,
  ⟨some 73, none, false, .mv (.t 72)⟩,
  ⟨some 74, some (73, true), false, .mv (.t 10)⟩,
  ⟨some 75, some (73, true), false, .bsi 1 1 [(.int .i64 0)] [(0, 1, (.c (.int .i64 3)))]⟩,
  ⟨some 76, some (73, true), false, .call false (.c (.fn i_law04_ints [] [])) [(.t 74), (.t 75)]⟩,
  ⟨some 77, none, false, .pick (.t 73) (.t 76) (.c (.bool false))⟩,
  ⟨some 0, none, false, .mv (.t 77)⟩]

def a_law04_wakes : Ann := ⟨[(5, [0]), (4, [1, 2, 3, 5, 6, 7, 8, 9, 10, 11]), (3, [1, 2, 3, 5, 6, 7, 8, 9]), (2, [1, 2, 3, 5, 6, 7]), (1, [1, 2, 3, 5]), (0, [])], [], [], [2, 3, 4, 6], [2, 3, 4, 6], [], [], [], [], []⟩
def f_law04_wakes : Abs.Fn := ⟨0, [.t 0],
  (.seq (.reg [] f_law04_wakes_r0) (.seq (.reg [1, 2, 3, 5] f_law04_wakes_r1) (.seq (.reg [1, 2, 3, 5, 6, 7] f_law04_wakes_r2) (.seq (.reg [1, 2, 3, 5, 6, 7, 8, 9] f_law04_wakes_r3) (.seq (.reg [1, 2, 3, 5, 6, 7, 8, 9, 10, 11] f_law04_wakes_r4) (.seq (.reg [0] f_law04_wakes_r5) .ret))))))⟩

theorem e_law04_wakes_r0 : type_of% f_law04_wakes_r0.eq_1 := by_rfl f_law04_wakes_r0.eq_1
theorem e_law04_wakes_r1 : type_of% f_law04_wakes_r1.eq_1 := by_rfl f_law04_wakes_r1.eq_1
theorem e_law04_wakes_r2 : type_of% f_law04_wakes_r2.eq_1 := by_rfl f_law04_wakes_r2.eq_1
theorem e_law04_wakes_r3 : type_of% f_law04_wakes_r3.eq_1 := by_rfl f_law04_wakes_r3.eq_1
theorem e_law04_wakes_r4 : type_of% f_law04_wakes_r4.eq_1 := by_rfl f_law04_wakes_r4.eq_1
theorem e_law04_wakes_r5 : type_of% f_law04_wakes_r5.eq_1 := by_rfl f_law04_wakes_r5.eq_1
theorem e_law04_wakes : type_of% f_law04_wakes.eq_1 := by_rfl f_law04_wakes.eq_1
theorem ok_law04_wakes : fnC Try.prog a_law04_wakes Try.f18 = some f_law04_wakes := by kernel_rfl

end Go.Proofs.Ytcjjdaifpboaaaa
