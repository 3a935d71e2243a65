/- The code of functions of the program, in the small instruction set; each is what the translation makes of it. -/
import Derived.Test.YtcjjdaifpboaaaaIds
set_option linter.unusedVariables false
set_option maxRecDepth 100000
namespace Go.Proofs.Ytcjjdaifpboaaaa
open Go Go.Abs
/-! 15 fumarole/fumarolelaw04.TrialGroups -/
def f_law04_TrialGroups_r0 : List Abs.Op := [
  ⟨some 1, none, false, .boxi (.t 0)⟩,
  ⟨some 2, none, false, .mv (.c (.bool false))⟩]

def f_law04_TrialGroups_r1 : List Abs.Op := [
  ⟨some 10, none, false, .fadr 2 (.t 1)⟩,
  ⟨some 11, none, false, .ld false 1 (.t 10)⟩,
  ⟨some 12, none, false, .lenS (.t 11)⟩,
  ⟨some 13, none, false, .bin .gtr (.t 12) (.c (.int .i64 70))⟩]

def f_law04_TrialGroups_r2 : List Abs.Op := [
  ⟨some 14, none, false, .call false (.c (.fn i_law04_wakes [] [])) []⟩,
  ⟨some 2, none, false, .mv (.t 14)⟩]

def f_law04_TrialGroups_r3 : List Abs.Op := [
  ⟨some 15, none, false, .ld true 3 (.t 1)⟩,
  ⟨some 16, none, false, .call false (.c (.fn i_ref04_SurveyFault [] [])) [(.t 15)]⟩,
  ⟨some 3, none, false, .mv (.t 16)⟩]

def f_law04_TrialGroups_r4 : List Abs.Op := [
  ⟨some 18, none, false, .ld true 3 (.t 1)⟩,
  ⟨some 19, none, false, .call false (.c (.fn i_law04_Survey [] [])) [(.t 18)]⟩,
  ⟨some 20, none, false, .call false (.c (.fn i_trial_Groups [] [])) [(.t 19)]⟩,
  ⟨some 17, none, false, .mv (.t 20)⟩,
  ⟨some 21, none, false, .ext (.t 17) 0⟩,
  ⟨some 22, none, false, .ext (.t 17) 1⟩,
  ⟨some 4, none, false, .mv (.t 21)⟩,
  ⟨some 5, none, false, .mv (.t 22)⟩]

def f_law04_TrialGroups_r5 : List Abs.Op := [
  ⟨some 24, none, false, .ld true 3 (.t 1)⟩,
  ⟨some 25, none, false, .call false (.c (.fn i_law04_Survey [] [])) [(.t 24)]⟩,
  ⟨some 26, none, false, .call false (.c (.fn i_trial_Clash [] [])) [(.t 25)]⟩,
  ⟨some 23, none, false, .mv (.t 26)⟩,
  ⟨some 27, none, false, .ext (.t 23) 0⟩,
  ⟨some 28, none, false, .ext (.t 23) 1⟩,
  ⟨some 29, none, false, .ext (.t 23) 2⟩,
  ⟨some 6, none, false, .mv (.t 27)⟩,
  ⟨some 7, none, false, .mv (.t 28)⟩,
  ⟨some 8, none, false, .mv (.t 29)⟩]

def f_law04_TrialGroups_r6 : List Abs.Op := [
  ⟨some 30, none, false, .ld true 3 (.t 1)⟩,
  ⟨some 31, none, false, .call false (.c (.fn i_law04_Survey [] [])) [(.t 30)]⟩,
  ⟨some 32, none, false, .call false (.c (.fn i_trial_CheckSurvey [] [])) [(.t 31)]⟩,
  ⟨some 33, none, false, .mv (.t 3)⟩,
  ⟨some 34, none, false, .bin .neq (.t 32) (.t 33)⟩]

def f_law04_TrialGroups_r7 : List Abs.Op := [
  ⟨some 2, none, false, .mv (.c (.bool false))⟩]

def f_law04_TrialGroups_r8 : List Abs.Op := [
  ⟨some 35, none, false, .mv (.t 3)⟩,
  ⟨some 36, none, false, .bin .neq (.t 35) (.c (.int .i64 0))⟩]

def f_law04_TrialGroups_r9 : List Abs.Op := [
  ⟨some 37, none, false, .mv (.t 5)⟩,
  ⟨some 38, none, false, .mv (.t 3)⟩,
  ⟨some 39, none, false, .bin .eql (.t 37) (.t 38)⟩,
  ⟨some 40, none, false, .mv (.t 39)⟩,
  ⟨some 41, some (40, true), false, .mv (.t 8)⟩,
  ⟨some 42, some (40, true), false, .mv (.t 3)⟩,
  ⟨some 43, some (40, true), false, .bin .eql (.t 41) (.t 42)⟩,
  ⟨some 44, none, false, .pick (.t 40) (.t 43) (.c (.bool false))⟩,
  ⟨some 45, none, false, .mv (.t 44)⟩,
  ⟨some 46, some (45, true), false, .mv (.t 4)⟩,
  ⟨some 47, some (45, true), false, .lenS (.t 46)⟩,
  ⟨some 48, some (45, true), false, .mv (.t 7)⟩,
  ⟨some 49, some (45, true), false, .lenS (.t 48)⟩,
  ⟨some 50, some (45, true), false, .bin .add (.t 47) (.t 49)⟩,
  ⟨some 51, some (45, true), false, .bin .eql (.t 50) (.c (.int .i64 0))⟩,
  ⟨some 52, none, false, .pick (.t 45) (.t 51) (.c (.bool false))⟩,
  ⟨some 53, none, false, .mv (.t 52)⟩,
  ⟨some 54, some (53, true), false, .mv (.t 6)⟩,
  ⟨some 55, some (53, true), false, .bin .eql (.t 54) (.c (.int .i64 0))⟩,
  ⟨some 56, none, false, .pick (.t 53) (.t 55) (.c (.bool false))⟩,
  ⟨some 57, none, false, .mv (.t 56)⟩,
  ⟨some 58, some (57, true), false, .call false (.c (.fn i_law04_wakes [] [])) []⟩,
  ⟨some 59, none, false, .pick (.t 57) (.t 58) (.c (.bool false))⟩,
  ⟨some 2, none, false, .mv (.t 59)⟩]

def f_law04_TrialGroups_r10 : List Abs.Op := [
  ⟨some 60, none, false, .mv (.t 5)⟩,
  ⟨some 61, none, false, .bin .neq (.t 60) (.c (.int .i64 0))⟩,
  ⟨some 62, none, false, .mv (.t 61)⟩,
  ⟨some 63, some (62, false), false, .mv (.t 4)⟩,
  ⟨some 64, some (62, false), false, .ld true 3 (.t 1)⟩,
  ⟨some 65, some (62, false), false, .call false (.c (.fn i_ref04_Groups [] [])) [(.t 64)]⟩,
  ⟨some 66, some (62, false), false, .call false (.c (.fn i_law04_ints [] [])) [(.t 63), (.t 65)]⟩,
  ⟨some 67, some (62, false), false, .un .not (.t 66)⟩,
  ⟨some 68, none, false, .pick (.t 62) (.c (.bool true)) (.t 67)⟩]

def f_law04_TrialGroups_r11 : List Abs.Op := [
  ⟨some 2, none, false, .mv (.c (.bool false))⟩]

def f_law04_TrialGroups_r12 : List Abs.Op := [
  ⟨some 69, none, false, .ld true 3 (.t 1)⟩,
  ⟨some 70, none, false, .call false (.c (.fn i_ref04_Clash [] [])) [(.t 69)]⟩,
  ⟨some 9, none, false, .mv (.t 70)⟩]

def f_law04_TrialGroups_r13 : List Abs.Op := [
  ⟨some 71, none, false, .mv (.t 9)⟩,
  ⟨some 72, none, false, .bin .lss (.t 71) (.c (.int .i64 0))⟩]

def f_law04_TrialGroups_r14 : List Abs.Op := [
  ⟨some 73, none, false, .mv (.t 8)⟩,
  ⟨some 74, none, false, .bin .eql (.t 73) (.c (.int .i64 7))⟩,
  ⟨some 75, none, false, .mv (.t 74)⟩,
  ⟨some 76, some (75, true), false, .mv (.t 6)⟩,
  ⟨some 77, some (75, true), false, .bin .eql (.t 76) (.c (.int .i64 0))⟩,
  ⟨some 78, none, false, .pick (.t 75) (.t 77) (.c (.bool false))⟩,
  ⟨some 79, none, false, .mv (.t 78)⟩,
  ⟨some 80, some (79, true), false, .mv (.t 7)⟩,
  ⟨some 81, some (79, true), false, .lenS (.t 80)⟩,
  ⟨some 82, some (79, true), false, .bin .eql (.t 81) (.c (.int .i64 0))⟩,
  ⟨some 83, none, false, .pick (.t 79) (.t 82) (.c (.bool false))⟩,
  ⟨some 84, none, false, .mv (.t 83)⟩,
  ⟨some 85, some (84, true), false, .call false (.c (.fn i_law04_wakes [] [])) []⟩,
  ⟨some 86, none, false, .pick (.t 84) (.t 85) (.c (.bool false))⟩,
  ⟨some 2, none, false, .mv (.t 86)⟩]

def f_law04_TrialGroups_r15 : List Abs.Op := [
  ⟨some 87, none, true, .mv (.t 8)⟩,
  ⟨some 88, none, true, .bin .eql (.t 87) (.c (.int .i64 0))⟩,
  ⟨some 89, none, true, .mv (.t 88)⟩,
  ⟨some 90, some (89, true), true, .mv (.t 6)⟩,
  ⟨some 91, some (89, true), true, .mv (.t 9)⟩,
  ⟨some 92, some (89, true), true, .bin .eql (.t 90) (.t 91)⟩,
  ⟨some 93, none, true, .pick (.t 89) (.t 92) (.c (.bool false))⟩,
  ⟨some 94, none, true, .mv (.t 93)⟩,
  ⟨some 95, some (94, true), true, .mv (.t 7)⟩,
  ⟨some 96, some (94, true), true, .ld true 3 (.t 1)⟩,
  ⟨some 97, some (94, true), true, .fadr 2 (.t 1)⟩,
  ⟨some 98, some (94, true), true, .ld false 1 (.t 97)⟩,
  ⟨some 99, some (94, true), true, .mv (.t 9)⟩,
  ⟨some 100, some (94, true), true, .idxS 4 (.t 98) (.t 99)⟩,
  ⟨some 101, some (94, true), true, .fadr 0 (.t 100)⟩,
  ⟨some 102, some (94, true), true, .ld false 1 (.t 101)⟩,
  ⟨some 103, some (94, true), true, .fadr 2 (.t 1)⟩,
  ⟨some 104, some (94, true), true, .ld false 1 (.t 103)⟩,
  ⟨some 105, some (94, true), true, .mv (.t 9)⟩,
  ⟨some 106, some (94, true), true, .idxS 4 (.t 104) (.t 105)⟩,
  ⟨some 107, some (94, true), true, .fadr 1 (.t 106)⟩,
  ⟨some 108, some (94, true), true, .ld false 1 (.t 107)⟩,
  ⟨some 109, some (94, true), true, .call false (.c (.fn i_ref04_Way [] [])) [(.t 96), (.t 102), (.t 108)]⟩,
  ⟨some 110, some (94, true), false, .call false (.c (.fn i_law04_ints [] [])) [(.t 95), (.t 109)]⟩,
  ⟨some 111, none, false, .pick (.t 94) (.t 110) (.c (.bool false))⟩,
  ⟨some 112, none, false, .mv (.t 111)⟩,
  ⟨some 113, some (112, true), false, .call false (.c (.fn i_law04_wakes [] [])) []⟩,
  ⟨some 114, none, false, .pick (.t 112) (.t 113) (.c (.bool false))⟩,
  ⟨some 2, none, false, .mv (.t 114)⟩]

def a_law04_TrialGroups : Ann := ⟨[(15, [2]), (14, [2]), (13, [1, 6, 7, 8, 9, 72]), (12, [1, 6, 7, 8, 9]), (11, [2]), (10, [1, 6, 7, 8, 68]), (9, [2]), (8, [1, 3, 4, 5, 6, 7, 8, 36]), (7, [2]), (6, [1, 3, 4, 5, 6, 7, 8, 34]), (5, [1, 3, 4, 5, 6, 7, 8]), (4, [1, 3, 4, 5]), (3, [1, 3]), (2, [2]), (1, [1, 13]), (0, [1])], [], [], [], [], [], [], [], [], []⟩
def f_law04_TrialGroups : Abs.Fn := ⟨1, [.t 2],
  (.seq (.reg [1] f_law04_TrialGroups_r0) (.seq (.seq (.reg [1, 13] f_law04_TrialGroups_r1) (.ite (.t 13) (.seq (.reg [2] f_law04_TrialGroups_r2) .ret) .nop)) (.seq (.reg [1, 3] f_law04_TrialGroups_r3) (.seq (.reg [1, 3, 4, 5] f_law04_TrialGroups_r4) (.seq (.reg [1, 3, 4, 5, 6, 7, 8] f_law04_TrialGroups_r5) (.seq (.seq (.reg [1, 3, 4, 5, 6, 7, 8, 34] f_law04_TrialGroups_r6) (.ite (.t 34) (.seq (.reg [2] f_law04_TrialGroups_r7) .ret) .nop)) (.seq (.seq (.reg [1, 3, 4, 5, 6, 7, 8, 36] f_law04_TrialGroups_r8) (.ite (.t 36) (.seq (.reg [2] f_law04_TrialGroups_r9) .ret) .nop)) (.seq (.seq (.reg [1, 6, 7, 8, 68] f_law04_TrialGroups_r10) (.ite (.t 68) (.seq (.reg [2] f_law04_TrialGroups_r11) .ret) .nop)) (.seq (.reg [1, 6, 7, 8, 9] f_law04_TrialGroups_r12) (.seq (.seq (.reg [1, 6, 7, 8, 9, 72] f_law04_TrialGroups_r13) (.ite (.t 72) (.seq (.reg [2] f_law04_TrialGroups_r14) .ret) .nop)) (.seq (.reg [2] f_law04_TrialGroups_r15) .ret)))))))))))⟩

theorem e_law04_TrialGroups_r0 : type_of% f_law04_TrialGroups_r0.eq_1 := by_rfl f_law04_TrialGroups_r0.eq_1
theorem e_law04_TrialGroups_r1 : type_of% f_law04_TrialGroups_r1.eq_1 := by_rfl f_law04_TrialGroups_r1.eq_1
theorem e_law04_TrialGroups_r2 : type_of% f_law04_TrialGroups_r2.eq_1 := by_rfl f_law04_TrialGroups_r2.eq_1
theorem e_law04_TrialGroups_r3 : type_of% f_law04_TrialGroups_r3.eq_1 := by_rfl f_law04_TrialGroups_r3.eq_1
theorem e_law04_TrialGroups_r4 : type_of% f_law04_TrialGroups_r4.eq_1 := by_rfl f_law04_TrialGroups_r4.eq_1
theorem e_law04_TrialGroups_r5 : type_of% f_law04_TrialGroups_r5.eq_1 := by_rfl f_law04_TrialGroups_r5.eq_1
theorem e_law04_TrialGroups_r6 : type_of% f_law04_TrialGroups_r6.eq_1 := by_rfl f_law04_TrialGroups_r6.eq_1
theorem e_law04_TrialGroups_r7 : type_of% f_law04_TrialGroups_r7.eq_1 := by_rfl f_law04_TrialGroups_r7.eq_1
theorem e_law04_TrialGroups_r8 : type_of% f_law04_TrialGroups_r8.eq_1 := by_rfl f_law04_TrialGroups_r8.eq_1
theorem e_law04_TrialGroups_r9 : type_of% f_law04_TrialGroups_r9.eq_1 := by_rfl f_law04_TrialGroups_r9.eq_1
theorem e_law04_TrialGroups_r10 : type_of% f_law04_TrialGroups_r10.eq_1 := by_rfl f_law04_TrialGroups_r10.eq_1
theorem e_law04_TrialGroups_r11 : type_of% f_law04_TrialGroups_r11.eq_1 := by_rfl f_law04_TrialGroups_r11.eq_1
theorem e_law04_TrialGroups_r12 : type_of% f_law04_TrialGroups_r12.eq_1 := by_rfl f_law04_TrialGroups_r12.eq_1
theorem e_law04_TrialGroups_r13 : type_of% f_law04_TrialGroups_r13.eq_1 := by_rfl f_law04_TrialGroups_r13.eq_1
theorem e_law04_TrialGroups_r14 : type_of% f_law04_TrialGroups_r14.eq_1 := by_rfl f_law04_TrialGroups_r14.eq_1
theorem e_law04_TrialGroups_r15 : type_of% f_law04_TrialGroups_r15.eq_1 := by_rfl f_law04_TrialGroups_r15.eq_1
theorem e_law04_TrialGroups : type_of% f_law04_TrialGroups.eq_1 := by_rfl f_law04_TrialGroups.eq_1
theorem ok_law04_TrialGroups : fnC Try.prog a_law04_TrialGroups Try.f15 = some f_law04_TrialGroups := by kernel_rfl

/-! 16 fumarole/fumarolelaw04.TrialDivides -/
def f_law04_TrialDivides_r0 : List Abs.Op := [
  ⟨some 2, none, false, .boxi (.t 0)⟩,
  ⟨some 4, none, false, .mv (.c (.bool false))⟩]

def f_law04_TrialDivides_r1 : List Abs.Op := [
  ⟨some 19, none, false, .fadr 2 (.t 2)⟩,
  ⟨some 20, none, false, .ld false 1 (.t 19)⟩,
  ⟨some 21, none, false, .lenS (.t 20)⟩,
  ⟨some 22, none, false, .bin .gtr (.t 21) (.c (.int .i64 70))⟩,
  ⟨some 23, none, false, .mv (.t 22)⟩,
  ⟨some 24, some (23, false), false, .ld true 3 (.t 2)⟩,
  ⟨some 25, some (23, false), false, .call false (.c (.fn i_ref04_SurveyFault [] [])) [(.t 24)]⟩,
  ⟨some 26, some (23, false), false, .bin .neq (.t 25) (.c (.int .i64 0))⟩,
  ⟨some 27, none, false, .pick (.t 23) (.c (.bool true)) (.t 26)⟩]

def f_law04_TrialDivides_r2 : List Abs.Op := [
  ⟨some 28, none, false, .call false (.c (.fn i_law04_wakes [] [])) []⟩,
  ⟨some 4, none, false, .mv (.t 28)⟩]

def f_law04_TrialDivides_r3 : List Abs.Op := [
  ⟨some 29, none, false, .ld true 3 (.t 2)⟩,
  ⟨some 30, none, false, .call false (.c (.fn i_law04_Survey [] [])) [(.t 29)]⟩,
  ⟨some 5, none, false, .alcv [] [(.int .i64 0), (.int .i64 0), .nils]⟩,
  ⟨none, none, false, .stv 5 [] 3 5 (.t 30)⟩]

def f_law04_TrialDivides_r4 : List Abs.Op := [
  ⟨some 32, none, false, .ldv 5 true 3 5⟩,
  ⟨some 33, none, false, .call false (.c (.fn i_trial_Groups [] [])) [(.t 32)]⟩,
  ⟨some 31, none, false, .mv (.t 33)⟩,
  ⟨some 34, none, false, .ext (.t 31) 0⟩,
  ⟨some 35, none, false, .ext (.t 31) 1⟩,
  ⟨some 6, none, false, .mv (.t 34)⟩,
  ⟨some 7, none, false, .mv (.t 35)⟩]

def f_law04_TrialDivides_r5 : List Abs.Op := [
  ⟨some 37, none, false, .ldv 5 true 3 5⟩,
  ⟨some 38, none, false, .call false (.c (.fn i_trial_Clash [] [])) [(.t 37)]⟩,
  ⟨some 36, none, false, .mv (.t 38)⟩,
  ⟨some 39, none, false, .ext (.t 36) 0⟩,
  ⟨some 40, none, false, .ext (.t 36) 1⟩,
  ⟨some 41, none, false, .ext (.t 36) 2⟩,
  ⟨some 8, none, false, .mv (.t 39)⟩,
  ⟨some 9, none, false, .mv (.t 40)⟩,
  ⟨some 10, none, false, .mv (.t 41)⟩]

def f_law04_TrialDivides_r6 : List Abs.Op := [
  ⟨some 43, none, false, .ldv 5 true 3 5⟩,
  ⟨some 44, none, false, .call false (.c (.fn i_trial_Relations [] [])) [(.t 43)]⟩,
  ⟨some 42, none, false, .mv (.t 44)⟩,
  ⟨some 45, none, false, .ext (.t 42) 0⟩,
  ⟨some 46, none, false, .ext (.t 42) 1⟩,
  ⟨some 11, none, false, .mv (.t 45)⟩,
  ⟨some 12, none, false, .mv (.t 46)⟩]

def f_law04_TrialDivides_r7 : List Abs.Op := [
  ⟨some 47, none, false, .fadr 0 (.t 2)⟩,
  ⟨some 48, none, false, .ld false 1 (.t 47)⟩,
  ⟨some 49, none, false, .mv (.t 1)⟩,
  ⟨some 50, none, false, .call false (.c (.fn i_law04_divided [] [])) [(.t 48), (.t 49)]⟩,
  ⟨some 13, none, false, .mv (.t 50)⟩]

def f_law04_TrialDivides_r8 : List Abs.Op := [
  ⟨some 51, none, true, .ldv 5 true 3 5⟩,
  ⟨some 52, none, true, .bsm 0 1 [] []⟩,
  ⟨some 53, none, true, .mv (.t 13)⟩,
  ⟨some 54, none, false, .apz 1 8 (.t 52) (.t 53)⟩,
  ⟨some 55, none, false, .call false (.c (.fn i_trial_Fits [] [])) [(.t 51), (.t 54)]⟩,
  ⟨some 14, none, false, .mv (.t 55)⟩]

def f_law04_TrialDivides_r9 : List Abs.Op := [
  ⟨some 56, none, false, .mv (.t 7)⟩,
  ⟨some 57, none, false, .bin .neq (.t 56) (.c (.int .i64 0))⟩,
  ⟨some 58, none, false, .mv (.t 57)⟩,
  ⟨some 59, some (58, false), false, .mv (.t 6)⟩,
  ⟨some 60, some (58, false), false, .lenS (.t 59)⟩,
  ⟨some 61, some (58, false), false, .fadr 0 (.t 2)⟩,
  ⟨some 62, some (58, false), false, .ld false 1 (.t 61)⟩,
  ⟨some 63, some (58, false), false, .bin .neq (.t 60) (.t 62)⟩,
  ⟨some 64, none, false, .pick (.t 58) (.c (.bool true)) (.t 63)⟩,
  ⟨some 65, none, false, .mv (.t 64)⟩,
  ⟨some 66, some (65, false), false, .mv (.t 10)⟩,
  ⟨some 67, some (65, false), false, .bin .eql (.t 66) (.c (.int .i64 0))⟩,
  ⟨some 68, some (65, false), false, .mv (.t 12)⟩,
  ⟨some 69, some (65, false), false, .bin .eql (.t 68) (.c (.int .i64 9))⟩,
  ⟨some 70, some (65, false), false, .eqv false [none] true (.t 67) (.t 69)⟩,
  ⟨some 71, none, false, .pick (.t 65) (.c (.bool true)) (.t 70)⟩]

def f_law04_TrialDivides_r10 : List Abs.Op := [
  ⟨some 4, none, false, .mv (.c (.bool false))⟩]

def f_law04_TrialDivides_r11 : List Abs.Op := [
  ⟨some 72, none, false, .mv (.t 10)⟩,
  ⟨some 73, none, false, .bin .eql (.t 72) (.c (.int .i64 0))⟩]

def f_law04_TrialDivides_r12 : List Abs.Op := [
  ⟨some 74, none, false, .mv (.t 14)⟩,
  ⟨some 75, none, false, .un .not (.t 74)⟩,
  ⟨some 76, none, false, .mv (.t 75)⟩,
  ⟨some 77, some (76, true), false, .ldv 5 true 3 5⟩,
  ⟨some 78, some (76, true), false, .mv (.t 6)⟩,
  ⟨some 79, some (76, true), false, .call false (.c (.fn i_trial_Fits [] [])) [(.t 77), (.t 78)]⟩,
  ⟨some 80, some (76, true), false, .un .not (.t 79)⟩,
  ⟨some 81, none, false, .pick (.t 76) (.t 80) (.c (.bool false))⟩,
  ⟨some 82, none, false, .mv (.t 81)⟩,
  ⟨some 83, some (82, true), false, .call false (.c (.fn i_law04_wakes [] [])) []⟩,
  ⟨some 84, none, false, .pick (.t 82) (.t 83) (.c (.bool false))⟩,
  ⟨some 4, none, false, .mv (.t 84)⟩]

def f_law04_TrialDivides_r13 : List Abs.Op := [
  ⟨some 85, none, true, .mv (.t 10)⟩,
  ⟨some 86, none, true, .bin .neq (.t 85) (.c (.int .i64 7))⟩,
  ⟨some 87, none, true, .mv (.t 86)⟩,
  ⟨some 88, some (87, false), true, .mv (.t 12)⟩,
  ⟨some 89, some (87, false), true, .bin .neq (.t 88) (.c (.int .i64 0))⟩,
  ⟨some 90, none, true, .pick (.t 87) (.c (.bool true)) (.t 89)⟩,
  ⟨some 91, none, true, .mv (.t 90)⟩,
  ⟨some 92, some (91, false), true, .mv (.t 11)⟩,
  ⟨some 93, some (91, false), true, .lenS (.t 92)⟩,
  ⟨some 94, some (91, false), true, .fadr 0 (.t 2)⟩,
  ⟨some 95, some (91, false), true, .ld false 1 (.t 94)⟩,
  ⟨some 96, some (91, false), true, .bin .neq (.t 93) (.t 95)⟩,
  ⟨some 97, none, true, .pick (.t 91) (.c (.bool true)) (.t 96)⟩,
  ⟨some 98, none, true, .mv (.t 97)⟩,
  ⟨some 99, some (98, false), true, .ldv 5 true 3 5⟩,
  ⟨some 100, some (98, false), true, .bsm 0 1 [] []⟩,
  ⟨some 101, some (98, false), true, .mv (.t 6)⟩,
  ⟨some 102, some (98, false), false, .apz 1 8 (.t 100) (.t 101)⟩,
  ⟨some 103, some (98, false), false, .call false (.c (.fn i_trial_Fits [] [])) [(.t 99), (.t 102)]⟩,
  ⟨some 104, some (98, false), false, .un .not (.t 103)⟩,
  ⟨some 105, none, false, .pick (.t 98) (.c (.bool true)) (.t 104)⟩]

def f_law04_TrialDivides_r14 : List Abs.Op := [
  ⟨some 4, none, false, .mv (.c (.bool false))⟩]

def f_law04_TrialDivides_r15 : List Abs.Op := [
  ⟨some 15, none, false, .mv (.c (.int .i64 0))⟩]

def f_law04_TrialDivides_r16 : List Abs.Op := [
  ⟨some 106, none, false, .mv (.t 15)⟩,
  ⟨some 107, none, false, .fadr 0 (.t 2)⟩,
  ⟨some 108, none, false, .ld false 1 (.t 107)⟩,
  ⟨some 109, none, false, .bin .lss (.t 106) (.t 108)⟩]

def f_law04_TrialDivides_r17 : List Abs.Op := [
  ⟨some 112, none, true, .mv (.t 11)⟩,
  ⟨some 113, none, true, .mv (.t 15)⟩,
  ⟨some 114, none, true, .idxS 1 (.t 112) (.t 113)⟩,
  ⟨some 115, none, true, .ld false 1 (.t 114)⟩,
  ⟨some 116, none, true, .lenS (.t 115)⟩,
  ⟨some 117, none, true, .fadr 0 (.t 2)⟩,
  ⟨some 118, none, true, .ld false 1 (.t 117)⟩,
  ⟨some 119, none, false, .bin .neq (.t 116) (.t 118)⟩]

def f_law04_TrialDivides_r18 : List Abs.Op := [
  ⟨some 4, none, false, .mv (.c (.bool false))⟩]

def f_law04_TrialDivides_r19 : List Abs.Op := [
  ⟨some 16, none, false, .mv (.c (.int .i64 0))⟩]

def f_law04_TrialDivides_r20 : List Abs.Op := [
  ⟨some 120, none, false, .mv (.t 16)⟩,
  ⟨some 121, none, false, .fadr 0 (.t 2)⟩,
  ⟨some 122, none, false, .ld false 1 (.t 121)⟩,
  ⟨some 123, none, false, .bin .lss (.t 120) (.t 122)⟩]

def f_law04_TrialDivides_r21 : List Abs.Op := [
  ⟨some 126, none, true, .mv (.t 14)⟩,
  ⟨some 127, none, true, .mv (.t 126)⟩,
  ⟨some 128, some (127, true), true, .mv (.t 11)⟩,
  ⟨some 129, some (127, true), true, .mv (.t 15)⟩,
  ⟨some 130, some (127, true), true, .idxS 1 (.t 128) (.t 129)⟩,
  ⟨some 131, some (127, true), true, .ld false 1 (.t 130)⟩,
  ⟨some 132, some (127, true), true, .mv (.t 16)⟩,
  ⟨some 133, some (127, true), true, .idxS 1 (.t 131) (.t 132)⟩,
  ⟨some 134, some (127, true), true, .ld false 1 (.t 133)⟩,
  ⟨some 135, some (127, true), true, .bin .eql (.t 134) (.c (.int .u8 2))⟩,
  ⟨some 136, some (127, true), true, .mv (.t 135)⟩,
  ⟨some 137, some (136, true), true, .mv (.t 13)⟩,
  ⟨some 138, some (136, true), true, .mv (.t 15)⟩,
  ⟨some 139, some (136, true), true, .idxS 1 (.t 137) (.t 138)⟩,
  ⟨some 140, some (136, true), true, .ld false 1 (.t 139)⟩,
  ⟨some 141, some (136, true), true, .mv (.t 13)⟩,
  ⟨some 142, some (136, true), true, .mv (.t 16)⟩,
  ⟨some 143, some (136, true), true, .idxS 1 (.t 141) (.t 142)⟩,
  ⟨some 144, some (136, true), true, .ld false 1 (.t 143)⟩,
  ⟨some 145, some (136, true), true, .bin .neq (.t 140) (.t 144)⟩,
  ⟨some 146, some (127, true), true, .pick (.t 136) (.t 145) (.c (.bool false))⟩,
  ⟨some 147, some (127, true), true, .mv (.t 146)⟩,
  ⟨some 148, some (147, false), true, .mv (.t 11)⟩,
  ⟨some 149, some (147, false), true, .mv (.t 15)⟩,
  ⟨some 150, some (147, false), true, .idxS 1 (.t 148) (.t 149)⟩,
  ⟨some 151, some (147, false), true, .ld false 1 (.t 150)⟩,
  ⟨some 152, some (147, false), true, .mv (.t 16)⟩,
  ⟨some 153, some (147, false), true, .idxS 1 (.t 151) (.t 152)⟩,
  ⟨some 154, some (147, false), true, .ld false 1 (.t 153)⟩,
  ⟨some 155, some (147, false), true, .bin .eql (.t 154) (.c (.int .u8 0))⟩,
  ⟨some 156, some (147, false), true, .mv (.t 155)⟩,
  ⟨some 157, some (156, true), true, .mv (.t 13)⟩,
  ⟨some 158, some (156, true), true, .mv (.t 15)⟩,
  ⟨some 159, some (156, true), true, .idxS 1 (.t 157) (.t 158)⟩,
  ⟨some 160, some (156, true), true, .ld false 1 (.t 159)⟩,
  ⟨some 161, some (156, true), true, .mv (.t 13)⟩,
  ⟨some 162, some (156, true), true, .mv (.t 16)⟩,
  ⟨some 163, some (156, true), true, .idxS 1 (.t 161) (.t 162)⟩,
  ⟨some 164, some (156, true), true, .ld false 1 (.t 163)⟩,
  ⟨some 165, some (156, true), false, .bin .eql (.t 160) (.t 164)⟩,
  ⟨some 166, some (147, false), false, .pick (.t 156) (.t 165) (.c (.bool false))⟩,
  ⟨some 167, some (127, true), false, .pick (.t 147) (.c (.bool true)) (.t 166)⟩,
  ⟨some 168, none, false, .pick (.t 127) (.t 167) (.c (.bool false))⟩]

def f_law04_TrialDivides_r22 : List Abs.Op := [
  ⟨some 4, none, false, .mv (.c (.bool false))⟩]

def f_law04_TrialDivides_r23 : List Abs.Op := [
  ⟨some 169, none, false, .mv (.t 11)⟩,
  ⟨some 170, none, false, .mv (.t 15)⟩,
  ⟨some 171, none, false, .idxS 1 (.t 169) (.t 170)⟩,
  ⟨some 172, none, false, .ld false 1 (.t 171)⟩,
  ⟨some 173, none, false, .mv (.t 16)⟩,
  ⟨some 174, none, false, .idxS 1 (.t 172) (.t 173)⟩,
  ⟨some 175, none, false, .ld false 1 (.t 174)⟩,
  ⟨some 176, none, false, .bin .neq (.t 175) (.c (.int .u8 1))⟩]

def f_law04_TrialDivides_r24 : List Abs.Op := [
  ⟨some 177, none, false, .bsm 0 1 [] []⟩,
  ⟨some 178, none, false, .mv (.t 6)⟩,
  ⟨some 179, none, false, .app 1 8 (.t 177) (.t 178)⟩,
  ⟨some 17, none, false, .mv (.t 179)⟩]

def f_law04_TrialDivides_r25 : List Abs.Op := [
  ⟨some 18, none, false, .mv (.c (.int .i64 0))⟩]

def f_law04_TrialDivides_r26 : List Abs.Op := [
  ⟨some 180, none, false, .mv (.t 18)⟩,
  ⟨some 181, none, false, .fadr 0 (.t 2)⟩,
  ⟨some 182, none, false, .ld false 1 (.t 181)⟩,
  ⟨some 183, none, false, .bin .lss (.t 180) (.t 182)⟩]

def f_law04_TrialDivides_r27 : List Abs.Op := [
  ⟨some 186, none, true, .mv (.t 17)⟩,
  ⟨some 187, none, true, .mv (.t 18)⟩,
  ⟨some 188, none, true, .idxS 1 (.t 186) (.t 187)⟩,
  ⟨some 189, none, true, .ld false 1 (.t 188)⟩,
  ⟨some 190, none, true, .mv (.t 6)⟩,
  ⟨some 191, none, true, .mv (.t 16)⟩,
  ⟨some 192, none, true, .idxS 1 (.t 190) (.t 191)⟩,
  ⟨some 193, none, true, .ld false 1 (.t 192)⟩,
  ⟨some 194, none, false, .bin .eql (.t 189) (.t 193)⟩]

def f_law04_TrialDivides_r28 : List Abs.Op := [
  ⟨some 195, none, false, .mv (.t 17)⟩,
  ⟨some 196, none, false, .mv (.t 18)⟩,
  ⟨some 197, none, false, .mv (.t 6)⟩,
  ⟨some 198, none, false, .mv (.t 15)⟩,
  ⟨some 199, none, false, .idxS 1 (.t 197) (.t 198)⟩,
  ⟨some 200, none, false, .ld false 1 (.t 199)⟩,
  ⟨some 201, none, false, .idxS 1 (.t 195) (.t 196)⟩,
  ⟨none, none, false, .st [] 1 (.t 201) (.t 200)⟩]

def f_law04_TrialDivides_r29 : List Abs.Op := [
  ⟨some 184, none, false, .mv (.t 18)⟩,
  ⟨some 185, none, false, .bin .add (.t 184) (.c (.int .i64 1))⟩,
  ⟨some 18, none, false, .mv (.t 185)⟩]

def f_law04_TrialDivides_l30 : Abs.Cmd :=
  (.seq (.seq (.reg [2, 5, 6, 11, 13, 14, 15, 16, 17, 18, 183] f_law04_TrialDivides_r26) (.ite (.t 183) .nop (.exit 4))) (.seq (.blk 5 (.seq (.reg [2, 5, 6, 11, 13, 14, 15, 16, 17, 18, 194] f_law04_TrialDivides_r27) (.ite (.t 194) (.reg [2, 5, 6, 11, 13, 14, 15, 16, 17, 18] f_law04_TrialDivides_r28) .nop))) (.reg [2, 5, 6, 11, 13, 14, 15, 16, 17, 18] f_law04_TrialDivides_r29)))

def f_law04_TrialDivides_r31 : List Abs.Op := [
  ⟨some 202, none, true, .mv (.t 6)⟩,
  ⟨some 203, none, true, .mv (.t 15)⟩,
  ⟨some 204, none, true, .idxS 1 (.t 202) (.t 203)⟩,
  ⟨some 205, none, true, .ld false 1 (.t 204)⟩,
  ⟨some 206, none, true, .mv (.t 6)⟩,
  ⟨some 207, none, true, .mv (.t 16)⟩,
  ⟨some 208, none, true, .idxS 1 (.t 206) (.t 207)⟩,
  ⟨some 209, none, true, .ld false 1 (.t 208)⟩,
  ⟨some 210, none, true, .bin .eql (.t 205) (.t 209)⟩,
  ⟨some 211, none, true, .mv (.t 210)⟩,
  ⟨some 212, some (211, false), true, .ldv 5 true 3 5⟩,
  ⟨some 213, some (211, false), true, .mv (.t 17)⟩,
  ⟨some 214, some (211, false), false, .call false (.c (.fn i_trial_Fits [] [])) [(.t 212), (.t 213)]⟩,
  ⟨some 215, some (211, false), false, .un .not (.t 214)⟩,
  ⟨some 216, none, false, .pick (.t 211) (.c (.bool true)) (.t 215)⟩]

def f_law04_TrialDivides_r32 : List Abs.Op := [
  ⟨some 4, none, false, .mv (.c (.bool false))⟩]

def f_law04_TrialDivides_r33 : List Abs.Op := [
  ⟨some 124, none, false, .mv (.t 16)⟩,
  ⟨some 125, none, false, .bin .add (.t 124) (.c (.int .i64 1))⟩,
  ⟨some 16, none, false, .mv (.t 125)⟩]

def f_law04_TrialDivides_l34 : Abs.Cmd :=
  (.seq (.seq (.reg [2, 5, 6, 11, 13, 14, 15, 16, 123] f_law04_TrialDivides_r20) (.ite (.t 123) .nop (.exit 2))) (.seq (.blk 3 (.seq (.seq (.reg [2, 5, 6, 11, 13, 14, 15, 16, 168] f_law04_TrialDivides_r21) (.ite (.t 168) (.seq (.reg [4] f_law04_TrialDivides_r22) .ret) .nop)) (.seq (.seq (.reg [2, 5, 6, 11, 13, 14, 15, 16, 176] f_law04_TrialDivides_r23) (.ite (.t 176) (.exit 3) .nop)) (.seq (.reg [2, 5, 6, 11, 13, 14, 15, 16, 17] f_law04_TrialDivides_r24) (.seq (.seq (.reg [2, 5, 6, 11, 13, 14, 15, 16, 17, 18] f_law04_TrialDivides_r25) (.blk 4 (.loop [2, 5, 6, 11, 13, 14, 15, 16, 17, 18] false f_law04_TrialDivides_l30))) (.seq (.seq (.frz [17]) (.reg [2, 5, 6, 11, 13, 14, 15, 16, 216] f_law04_TrialDivides_r31)) (.ite (.t 216) (.seq (.reg [4] f_law04_TrialDivides_r32) .ret) .nop))))))) (.reg [2, 5, 6, 11, 13, 14, 15, 16] f_law04_TrialDivides_r33)))

def f_law04_TrialDivides_r35 : List Abs.Op := [
  ⟨some 110, none, false, .mv (.t 15)⟩,
  ⟨some 111, none, false, .bin .add (.t 110) (.c (.int .i64 1))⟩,
  ⟨some 15, none, false, .mv (.t 111)⟩]

def f_law04_TrialDivides_l36 : Abs.Cmd :=
  (.seq (.seq (.reg [2, 5, 6, 11, 13, 14, 15, 109] f_law04_TrialDivides_r16) (.ite (.t 109) .nop (.exit 0))) (.seq (.blk 1 (.seq (.seq (.reg [2, 5, 6, 11, 13, 14, 15, 119] f_law04_TrialDivides_r17) (.ite (.t 119) (.seq (.reg [4] f_law04_TrialDivides_r18) .ret) .nop)) (.seq (.reg [2, 5, 6, 11, 13, 14, 15, 16] f_law04_TrialDivides_r19) (.blk 2 (.loop [2, 5, 6, 11, 13, 14, 15, 16] true f_law04_TrialDivides_l34))))) (.reg [2, 5, 6, 11, 13, 14, 15] f_law04_TrialDivides_r35)))

def f_law04_TrialDivides_r37 : List Abs.Op := [
  ⟨some 217, none, false, .call false (.c (.fn i_law04_wakes [] [])) []⟩,
  ⟨some 4, none, false, .mv (.t 217)⟩]

def a_law04_TrialDivides : Ann := ⟨[(34, [4]), (17, [2, 5, 6, 11, 13, 14, 15]), (22, [2, 5, 6, 11, 13, 14, 15, 16]), (33, [4]), (32, [2, 5, 6, 11, 13, 14, 15, 16, 216]), (29, [2, 5, 6, 11, 13, 14, 15, 16, 17, 18]), (31, [2, 5, 6, 11, 13, 14, 15, 16, 17, 18]), (30, [2, 5, 6, 11, 13, 14, 15, 16, 17, 18, 194]), (28, [2, 5, 6, 11, 13, 14, 15, 16, 17, 18, 183]), (27, [2, 5, 6, 11, 13, 14, 15, 16, 17, 18]), (26, [2, 5, 6, 11, 13, 14, 15, 16, 17]), (25, [2, 5, 6, 11, 13, 14, 15, 16, 176]), (24, [4]), (23, [2, 5, 6, 11, 13, 14, 15, 16, 168]), (21, [2, 5, 6, 11, 13, 14, 15, 16, 123]), (20, [2, 5, 6, 11, 13, 14, 15, 16]), (19, [4]), (18, [2, 5, 6, 11, 13, 14, 15, 119]), (16, [2, 5, 6, 11, 13, 14, 15, 109]), (15, [2, 5, 6, 11, 13, 14, 15]), (14, [4]), (13, [2, 5, 6, 11, 13, 14, 105]), (12, [4]), (11, [2, 5, 6, 10, 11, 12, 13, 14, 73]), (10, [4]), (9, [2, 5, 6, 10, 11, 12, 13, 14, 71]), (8, [2, 5, 6, 7, 10, 11, 12, 13, 14]), (7, [2, 5, 6, 7, 10, 11, 12, 13]), (6, [1, 2, 5, 6, 7, 10, 11, 12]), (5, [1, 2, 5, 6, 7, 10]), (4, [1, 2, 5, 6, 7]), (3, [1, 2, 5]), (2, [4]), (1, [1, 2, 27]), (0, [1, 2])], [(4, [2, 5, 6, 11, 13, 14, 15, 16, 17, 18]), (2, [2, 5, 6, 11, 13, 14, 15, 16]), (0, [2, 5, 6, 11, 13, 14, 15])], [2, 0], [5, 52, 100, 177], [5], [], [8003, 13017], [(32, [17])], [], []⟩
def f_law04_TrialDivides : Abs.Fn := ⟨2, [.t 4],
  (.seq (.reg [1, 2] f_law04_TrialDivides_r0) (.seq (.seq (.reg [1, 2, 27] f_law04_TrialDivides_r1) (.ite (.t 27) (.seq (.reg [4] f_law04_TrialDivides_r2) .ret) .nop)) (.seq (.reg [1, 2, 5] f_law04_TrialDivides_r3) (.seq (.reg [1, 2, 5, 6, 7] f_law04_TrialDivides_r4) (.seq (.reg [1, 2, 5, 6, 7, 10] f_law04_TrialDivides_r5) (.seq (.reg [1, 2, 5, 6, 7, 10, 11, 12] f_law04_TrialDivides_r6) (.seq (.reg [2, 5, 6, 7, 10, 11, 12, 13] f_law04_TrialDivides_r7) (.seq (.reg [2, 5, 6, 7, 10, 11, 12, 13, 14] f_law04_TrialDivides_r8) (.seq (.seq (.reg [2, 5, 6, 10, 11, 12, 13, 14, 71] f_law04_TrialDivides_r9) (.ite (.t 71) (.seq (.reg [4] f_law04_TrialDivides_r10) .ret) .nop)) (.seq (.seq (.reg [2, 5, 6, 10, 11, 12, 13, 14, 73] f_law04_TrialDivides_r11) (.ite (.t 73) (.seq (.reg [4] f_law04_TrialDivides_r12) .ret) .nop)) (.seq (.seq (.reg [2, 5, 6, 11, 13, 14, 105] f_law04_TrialDivides_r13) (.ite (.t 105) (.seq (.reg [4] f_law04_TrialDivides_r14) .ret) .nop)) (.seq (.seq (.reg [2, 5, 6, 11, 13, 14, 15] f_law04_TrialDivides_r15) (.blk 0 (.loop [2, 5, 6, 11, 13, 14, 15] true f_law04_TrialDivides_l36))) (.seq (.reg [4] f_law04_TrialDivides_r37) .ret)))))))))))))⟩

theorem e_law04_TrialDivides_r0 : type_of% f_law04_TrialDivides_r0.eq_1 := by_rfl f_law04_TrialDivides_r0.eq_1
theorem e_law04_TrialDivides_r1 : type_of% f_law04_TrialDivides_r1.eq_1 := by_rfl f_law04_TrialDivides_r1.eq_1
theorem e_law04_TrialDivides_r2 : type_of% f_law04_TrialDivides_r2.eq_1 := by_rfl f_law04_TrialDivides_r2.eq_1
theorem e_law04_TrialDivides_r3 : type_of% f_law04_TrialDivides_r3.eq_1 := by_rfl f_law04_TrialDivides_r3.eq_1
theorem e_law04_TrialDivides_r4 : type_of% f_law04_TrialDivides_r4.eq_1 := by_rfl f_law04_TrialDivides_r4.eq_1
theorem e_law04_TrialDivides_r5 : type_of% f_law04_TrialDivides_r5.eq_1 := by_rfl f_law04_TrialDivides_r5.eq_1
theorem e_law04_TrialDivides_r6 : type_of% f_law04_TrialDivides_r6.eq_1 := by_rfl f_law04_TrialDivides_r6.eq_1
theorem e_law04_TrialDivides_r7 : type_of% f_law04_TrialDivides_r7.eq_1 := by_rfl f_law04_TrialDivides_r7.eq_1
theorem e_law04_TrialDivides_r8 : type_of% f_law04_TrialDivides_r8.eq_1 := by_rfl f_law04_TrialDivides_r8.eq_1
theorem e_law04_TrialDivides_r9 : type_of% f_law04_TrialDivides_r9.eq_1 := by_rfl f_law04_TrialDivides_r9.eq_1
theorem e_law04_TrialDivides_r10 : type_of% f_law04_TrialDivides_r10.eq_1 := by_rfl f_law04_TrialDivides_r10.eq_1
theorem e_law04_TrialDivides_r11 : type_of% f_law04_TrialDivides_r11.eq_1 := by_rfl f_law04_TrialDivides_r11.eq_1
theorem e_law04_TrialDivides_r12 : type_of% f_law04_TrialDivides_r12.eq_1 := by_rfl f_law04_TrialDivides_r12.eq_1
theorem e_law04_TrialDivides_r13 : type_of% f_law04_TrialDivides_r13.eq_1 := by_rfl f_law04_TrialDivides_r13.eq_1
theorem e_law04_TrialDivides_r14 : type_of% f_law04_TrialDivides_r14.eq_1 := by_rfl f_law04_TrialDivides_r14.eq_1
theorem e_law04_TrialDivides_r15 : type_of% f_law04_TrialDivides_r15.eq_1 := by_rfl f_law04_TrialDivides_r15.eq_1
theorem e_law04_TrialDivides_r16 : type_of% f_law04_TrialDivides_r16.eq_1 := by_rfl f_law04_TrialDivides_r16.eq_1
theorem e_law04_TrialDivides_r17 : type_of% f_law04_TrialDivides_r17.eq_1 := by_rfl f_law04_TrialDivides_r17.eq_1
theorem e_law04_TrialDivides_r18 : type_of% f_law04_TrialDivides_r18.eq_1 := by_rfl f_law04_TrialDivides_r18.eq_1
theorem e_law04_TrialDivides_r19 : type_of% f_law04_TrialDivides_r19.eq_1 := by_rfl f_law04_TrialDivides_r19.eq_1
theorem e_law04_TrialDivides_r20 : type_of% f_law04_TrialDivides_r20.eq_1 := by_rfl f_law04_TrialDivides_r20.eq_1
theorem e_law04_TrialDivides_r21 : type_of% f_law04_TrialDivides_r21.eq_1 := by_rfl f_law04_TrialDivides_r21.eq_1
theorem e_law04_TrialDivides_r22 : type_of% f_law04_TrialDivides_r22.eq_1 := by_rfl f_law04_TrialDivides_r22.eq_1
theorem e_law04_TrialDivides_r23 : type_of% f_law04_TrialDivides_r23.eq_1 := by_rfl f_law04_TrialDivides_r23.eq_1
theorem e_law04_TrialDivides_r24 : type_of% f_law04_TrialDivides_r24.eq_1 := by_rfl f_law04_TrialDivides_r24.eq_1
theorem e_law04_TrialDivides_r25 : type_of% f_law04_TrialDivides_r25.eq_1 := by_rfl f_law04_TrialDivides_r25.eq_1
theorem e_law04_TrialDivides_r26 : type_of% f_law04_TrialDivides_r26.eq_1 := by_rfl f_law04_TrialDivides_r26.eq_1
theorem e_law04_TrialDivides_r27 : type_of% f_law04_TrialDivides_r27.eq_1 := by_rfl f_law04_TrialDivides_r27.eq_1
theorem e_law04_TrialDivides_r28 : type_of% f_law04_TrialDivides_r28.eq_1 := by_rfl f_law04_TrialDivides_r28.eq_1
theorem e_law04_TrialDivides_r29 : type_of% f_law04_TrialDivides_r29.eq_1 := by_rfl f_law04_TrialDivides_r29.eq_1
theorem e_law04_TrialDivides_l30 : type_of% f_law04_TrialDivides_l30.eq_1 := by_rfl f_law04_TrialDivides_l30.eq_1
theorem e_law04_TrialDivides_r31 : type_of% f_law04_TrialDivides_r31.eq_1 := by_rfl f_law04_TrialDivides_r31.eq_1
theorem e_law04_TrialDivides_r32 : type_of% f_law04_TrialDivides_r32.eq_1 := by_rfl f_law04_TrialDivides_r32.eq_1
theorem e_law04_TrialDivides_r33 : type_of% f_law04_TrialDivides_r33.eq_1 := by_rfl f_law04_TrialDivides_r33.eq_1
theorem e_law04_TrialDivides_l34 : type_of% f_law04_TrialDivides_l34.eq_1 := by_rfl f_law04_TrialDivides_l34.eq_1
theorem e_law04_TrialDivides_r35 : type_of% f_law04_TrialDivides_r35.eq_1 := by_rfl f_law04_TrialDivides_r35.eq_1
theorem e_law04_TrialDivides_l36 : type_of% f_law04_TrialDivides_l36.eq_1 := by_rfl f_law04_TrialDivides_l36.eq_1
theorem e_law04_TrialDivides_r37 : type_of% f_law04_TrialDivides_r37.eq_1 := by_rfl f_law04_TrialDivides_r37.eq_1
theorem e_law04_TrialDivides : type_of% f_law04_TrialDivides.eq_1 := by_rfl f_law04_TrialDivides.eq_1
theorem ok_law04_TrialDivides : fnC Try.prog a_law04_TrialDivides Try.f16 = some f_law04_TrialDivides := by kernel_rfl

/-! 18 fumarole/fumarolelaw04.wakes -/
def f_law04_wakes_r0 : List Abs.Op := [
  ⟨some 0, none, false, .mv (.c (.bool false))⟩]

def f_law04_wakes_r1 : List Abs.Op := [
  ⟨some 13, none, false, .call false (.c (.fn i_law04_well [] [])) []⟩,
  ⟨some 14, none, false, .call false (.c (.fn i_trial_Curves [] [])) [(.t 13)]⟩,
  ⟨some 12, none, false, .mv (.t 14)⟩,
  ⟨some 15, none, false, .ext (.t 12) 0⟩,
  ⟨some 16, none, false, .ext (.t 12) 1⟩,
  ⟨some 17, none, false, .ext (.t 12) 2⟩,
  ⟨some 18, none, false, .ext (.t 12) 3⟩,
  ⟨some 19, none, false, .ext (.t 12) 4⟩,
  ⟨some 2, none, false, .alcv [] [(.int .i64 0), (.int .i64 0)]⟩,
  ⟨some 3, none, false, .alcv [] [(.int .i64 0), (.int .i64 0)]⟩,
  ⟨some 4, none, false, .alcv [] [(.int .i64 0), (.int .i64 0)]⟩,
  ⟨some 1, none, false, .mv (.t 15)⟩,
  ⟨none, none, false, .stv 2 [] 2 2 (.t 16)⟩,
  ⟨none, none, false, .stv 3 [] 2 3 (.t 17)⟩,
  ⟨none, none, false, .stv 4 [] 2 4 (.t 18)⟩,
  ⟨some 5, none, false, .mv (.t 19)⟩]

def f_law04_wakes_r2 : List Abs.Op := [
  ⟨some 21, none, false, .call false (.c (.fn i_law04_well [] [])) []⟩,
  ⟨some 22, none, false, .call false (.c (.fn i_trial_Drawdown [] [])) [(.t 21), (.c (.int .i64 20))]⟩,
  ⟨some 20, none, false, .mv (.t 22)⟩,
  ⟨some 23, none, false, .ext (.t 20) 0⟩,
  ⟨some 24, none, false, .ext (.t 20) 1⟩,
  ⟨some 6, none, false, .alcv [] [(.int .i64 0), (.int .i64 0)]⟩,
  ⟨none, none, false, .stv 6 [] 2 6 (.t 23)⟩,
  ⟨some 7, none, false, .mv (.t 24)⟩]

def f_law04_wakes_r3 : List Abs.Op := [
  ⟨some 26, none, false, .call false (.c (.fn i_law04_wells [] [])) []⟩,
  ⟨some 27, none, false, .call false (.c (.fn i_trial_Groups [] [])) [(.t 26)]⟩,
  ⟨some 25, none, false, .mv (.t 27)⟩,
  ⟨some 28, none, false, .ext (.t 25) 0⟩,
  ⟨some 29, none, false, .ext (.t 25) 1⟩,
  ⟨some 8, none, false, .mv (.t 28)⟩,
  ⟨some 9, none, false, .mv (.t 29)⟩]

def f_law04_wakes_r4 : List Abs.Op := [
  ⟨some 31, none, false, .call false (.c (.fn i_law04_wells [] [])) []⟩,
  ⟨some 32, none, false, .call false (.c (.fn i_trial_Plan [] [])) [(.t 31)]⟩,
  ⟨some 30, none, false, .mv (.t 32)⟩,
  ⟨some 33, none, false, .ext (.t 30) 0⟩,
  ⟨some 34, none, false, .ext (.t 30) 1⟩,
  ⟨some 10, none, false, .mv (.t 33)⟩,
  ⟨some 11, none, false, .mv (.t 34)⟩]

def f_law04_wakes_r5 : List Abs.Op := [
  ⟨some 35, none, false, .mv (.t 5)⟩,
  ⟨some 36, none, false, .bin .eql (.t 35) (.c (.int .i64 0))⟩,
  ⟨some 37, none, false, .mv (.t 36)⟩,
  ⟨some 38, some (37, true), false, .mv (.t 7)⟩,
  ⟨some 39, some (37, true), false, .bin .eql (.t 38) (.c (.int .i64 0))⟩,
  ⟨some 40, none, false, .pick (.t 37) (.t 39) (.c (.bool false))⟩,
  ⟨some 41, none, false, .mv (.t 40)⟩,
  ⟨some 42, some (41, true), false, .mv (.t 9)⟩,
  ⟨some 43, some (41, true), false, .bin .eql (.t 42) (.c (.int .i64 0))⟩,
  ⟨some 44, none, false, .pick (.t 41) (.t 43) (.c (.bool false))⟩,
  ⟨some 45, none, false, .mv (.t 44)⟩,
  ⟨some 46, some (45, true), false, .mv (.t 11)⟩,
  ⟨some 47, some (45, true), false, .bin .eql (.t 46) (.c (.int .i64 0))⟩,
  ⟨some 48, none, false, .pick (.t 45) (.t 47) (.c (.bool false))⟩,
  ⟨some 49, none, false, .mv (.t 48)⟩,
  ⟨some 50, some (49, true), false, .mv (.t 1)⟩,
  ⟨some 51, some (49, true), false, .bin .eql (.t 50) (.c (.int .i64 4))⟩,
  ⟨some 52, none, false, .pick (.t 49) (.t 51) (.c (.bool false))⟩,
  ⟨some 53, none, false, .mv (.t 52)⟩,
  ⟨some 54, some (53, true), false, .ldv 2 true 2 2⟩,
  ⟨some 55, some (53, true), false, .bld [(.int .i64 0), (.int .i64 0)] [(0, 1, (.c (.int .i64 2))), (1, 1, (.c (.int .i64 3)))]⟩,
  ⟨some 56, some (53, true), false, .eqv true [some .i64, some .i64] false (.t 54) (.t 55)⟩,
  ⟨some 57, none, false, .pick (.t 53) (.t 56) (.c (.bool false))⟩,
  ⟨some 58, none, false, .mv (.t 57)⟩,
  ⟨some 59, some (58, true), false, .ldv 3 true 2 3⟩,
  ⟨some 60, some (58, true), false, .ldv 2 true 2 2⟩,
  ⟨some 61, some (58, true), false, .eqv true [some .i64, some .i64] false (.t 59) (.t 60)⟩,
  ⟨some 62, none, false, .pick (.t 58) (.t 61) (.c (.bool false))⟩,
  ⟨some 63, none, false, .mv (.t 62)⟩,
  ⟨some 64, some (63, true), false, .ldv 6 true 2 6⟩,
  ⟨some 65, some (63, true), false, .bld [(.int .i64 0), (.int .i64 0)] [(0, 1, (.c (.int .i64 42))), (1, 1, (.c (.int .i64 63)))]⟩,
  ⟨some 66, some (63, true), false, .eqv true [some .i64, some .i64] false (.t 64) (.t 65)⟩,
  ⟨some 67, none, false, .pick (.t 63) (.t 66) (.c (.bool false))⟩,
  ⟨some 68, none, false, .mv (.t 67)⟩,
  ⟨some 69, some (68, true), false, .mv (.t 8)⟩,
  ⟨some 70, some (68, true), false, .bsi 4 1 [(.int .i64 0), (.int .i64 0), (.int .i64 0), (.int .i64 0)] [(0, 1, (.c (.int .i64 0))), (1, 1, (.c (.int .i64 0))), (2, 1, (.c (.int .i64 2))), (3, 1, (.c (.int .i64 3)))]⟩,
  ⟨some 71, some (68, true), false, .call false (.c (.fn i_law04_ints [] [])) [(.t 69), (.t 70)]⟩,
  ⟨some 72, none, false, .pick (.t 68) (.t 71) (.c (.bool false))⟩,
  ⟨some 73, none, false, .mv (.t 72)⟩,
  ⟨some 74, some (73, true), false, .mv (.t 10)⟩,
  ⟨some 75, some (73, true), false, .bsi 1 1 [(.int .i64 0)] [(0, 1, (.c (.int .i64 3)))]⟩,
  ⟨some 76, some (73, true), false, .call false (.c (.fn i_law04_ints [] [])) [(.t 74), (.t 75)]⟩,
  ⟨some 77, none, false, .pick (.t 73) (.t 76) (.c (.bool false))⟩,
  ⟨some 0, none, false, .mv (.t 77)⟩]

def a_law04_wakes : Ann := ⟨[(5, [0]), (4, [1, 2, 3, 5, 6, 7, 8, 9, 10, 11]), (3, [1, 2, 3, 5, 6, 7, 8, 9]), (2, [1, 2, 3, 5, 6, 7]), (1, [1, 2, 3, 5]), (0, [])], [], [], [2, 3, 4, 6], [2, 3, 4, 6], [], [], [], [], []⟩
def f_law04_wakes : Abs.Fn := ⟨0, [.t 0],
  (.seq (.reg [] f_law04_wakes_r0) (.seq (.reg [1, 2, 3, 5] f_law04_wakes_r1) (.seq (.reg [1, 2, 3, 5, 6, 7] f_law04_wakes_r2) (.seq (.reg [1, 2, 3, 5, 6, 7, 8, 9] f_law04_wakes_r3) (.seq (.reg [1, 2, 3, 5, 6, 7, 8, 9, 10, 11] f_law04_wakes_r4) (.seq (.reg [0] f_law04_wakes_r5) .ret))))))⟩

theorem e_law04_wakes_r0 : type_of% f_law04_wakes_r0.eq_1 := by_rfl f_law04_wakes_r0.eq_1
theorem e_law04_wakes_r1 : type_of% f_law04_wakes_r1.eq_1 := by_rfl f_law04_wakes_r1.eq_1
theorem e_law04_wakes_r2 : type_of% f_law04_wakes_r2.eq_1 := by_rfl f_law04_wakes_r2.eq_1
theorem e_law04_wakes_r3 : type_of% f_law04_wakes_r3.eq_1 := by_rfl f_law04_wakes_r3.eq_1
theorem e_law04_wakes_r4 : type_of% f_law04_wakes_r4.eq_1 := by_rfl f_law04_wakes_r4.eq_1
theorem e_law04_wakes_r5 : type_of% f_law04_wakes_r5.eq_1 := by_rfl f_law04_wakes_r5.eq_1
theorem e_law04_wakes : type_of% f_law04_wakes.eq_1 := by_rfl f_law04_wakes.eq_1
theorem ok_law04_wakes : fnC Try.prog a_law04_wakes Try.f18 = some f_law04_wakes := by kernel_rfl

/-! 19 fumarole/trial.CheckTest -/
def f_trial_CheckTest_r0 : List Abs.Op := [
  ⟨some 1, none, false, .boxi (.t 0)⟩,
  ⟨some 2, none, false, .mv (.c (.int .i64 0))⟩]

def f_trial_CheckTest_r1 : List Abs.Op := [
  ⟨some 5, none, false, .fadr 6 (.t 1)⟩,
  ⟨some 6, none, false, .ld false 1 (.t 5)⟩,
  ⟨some 7, none, false, .lenS (.t 6)⟩,
  ⟨some 8, none, false, .bin .gtr (.t 7) (.c (.int .i64 12))⟩]

def f_trial_CheckTest_r2 : List Abs.Op := [
  ⟨some 2, none, false, .mv (.c (.int .i64 3))⟩]

def f_trial_CheckTest_r3 : List Abs.Op := [
  ⟨some 9, none, false, .fadr 0 (.t 1)⟩,
  ⟨some 10, none, false, .ld true 2 (.t 9)⟩,
  ⟨some 11, none, false, .call false (.c (.fn i_trial_Range_right [] [])) [(.t 10), (.c (.int .i64 0)), (.c (.int .i64 100000))]⟩,
  ⟨some 12, none, false, .un .not (.t 11)⟩,
  ⟨some 13, none, false, .mv (.t 12)⟩,
  ⟨some 14, some (13, false), false, .fadr 2 (.t 1)⟩,
  ⟨some 15, some (13, false), false, .ld true 2 (.t 14)⟩,
  ⟨some 16, some (13, false), false, .call false (.c (.fn i_trial_Range_right [] [])) [(.t 15), (.c (.int .i64 0)), (.c (.int .i64 10000))]⟩,
  ⟨some 17, some (13, false), false, .un .not (.t 16)⟩,
  ⟨some 18, none, false, .pick (.t 13) (.c (.bool true)) (.t 17)⟩,
  ⟨some 19, none, false, .mv (.t 18)⟩,
  ⟨some 20, some (19, false), false, .fadr 4 (.t 1)⟩,
  ⟨some 21, some (19, false), false, .ld true 2 (.t 20)⟩,
  ⟨some 22, some (19, false), false, .call false (.c (.fn i_trial_Range_right [] [])) [(.t 21), (.c (.int .i64 0)), (.c (.int .i64 1000))]⟩,
  ⟨some 23, some (19, false), false, .un .not (.t 22)⟩,
  ⟨some 24, none, false, .pick (.t 19) (.c (.bool true)) (.t 23)⟩,
  ⟨some 25, none, false, .mv (.t 24)⟩,
  ⟨some 26, some (25, false), false, .fadr 2 (.t 1)⟩,
  ⟨some 27, some (25, false), false, .fadr 1 (.t 26)⟩,
  ⟨some 28, some (25, false), false, .ld false 1 (.t 27)⟩,
  ⟨some 29, some (25, false), false, .fadr 2 (.t 1)⟩,
  ⟨some 30, some (25, false), false, .fadr 0 (.t 29)⟩,
  ⟨some 31, some (25, false), false, .ld false 1 (.t 30)⟩,
  ⟨some 32, some (25, false), false, .bin .sub (.t 28) (.t 31)⟩,
  ⟨some 33, some (25, false), false, .bin .geq (.t 32) (.c (.int .i64 40))⟩,
  ⟨some 34, none, false, .pick (.t 25) (.c (.bool true)) (.t 33)⟩,
  ⟨some 35, none, false, .mv (.t 34)⟩,
  ⟨some 36, some (35, false), false, .fadr 4 (.t 1)⟩,
  ⟨some 37, some (35, false), false, .fadr 1 (.t 36)⟩,
  ⟨some 38, some (35, false), false, .ld false 1 (.t 37)⟩,
  ⟨some 39, some (35, false), false, .fadr 4 (.t 1)⟩,
  ⟨some 40, some (35, false), false, .fadr 0 (.t 39)⟩,
  ⟨some 41, some (35, false), false, .ld false 1 (.t 40)⟩,
  ⟨some 42, some (35, false), false, .bin .sub (.t 38) (.t 41)⟩,
  ⟨some 43, some (35, false), false, .bin .geq (.t 42) (.c (.int .i64 40))⟩,
  ⟨some 44, none, false, .pick (.t 35) (.c (.bool true)) (.t 43)⟩]

def f_trial_CheckTest_r4 : List Abs.Op := [
  ⟨some 2, none, false, .mv (.c (.int .i64 1))⟩]

def f_trial_CheckTest_r5 : List Abs.Op := [
  ⟨some 45, none, false, .fadr 6 (.t 1)⟩,
  ⟨some 46, none, false, .ld false 1 (.t 45)⟩,
  ⟨some 47, none, false, .lenS (.t 46)⟩,
  ⟨some 48, none, false, .mv (.c (.int .i64 0))⟩]

def f_trial_CheckTest_r6 : List Abs.Op := [
  ⟨some 49, none, false, .bin .lss (.t 48) (.t 47)⟩]

def f_trial_CheckTest_r7 : List Abs.Op := [
  ⟨some 50, none, false, .idxS 3 (.t 46) (.t 48)⟩,
  ⟨some 51, none, false, .ld true 3 (.t 50)⟩,
  ⟨some 4, none, false, .alcv [] [(.int .i64 0), (.int .i64 0), (.int .i64 0)]⟩,
  ⟨none, none, false, .stv 4 [] 3 4 (.t 51)⟩]

def f_trial_CheckTest_r8 : List Abs.Op := [
  ⟨some 52, none, false, .fadr 0 (.t 4)⟩,
  ⟨some 53, none, false, .ldv 4 false 1 52⟩,
  ⟨some 54, none, false, .call false (.c (.fn i_trial_within [] [])) [(.t 53), (.c (.int .i64 0)), (.c (.int .i64 1000))]⟩,
  ⟨some 55, none, false, .un .not (.t 54)⟩,
  ⟨some 56, none, false, .mv (.t 55)⟩,
  ⟨some 57, some (56, false), false, .fadr 1 (.t 4)⟩,
  ⟨some 58, some (56, false), false, .ldv 4 true 2 57⟩,
  ⟨some 59, some (56, false), false, .call false (.c (.fn i_trial_Range_drops [] [])) [(.t 58)]⟩,
  ⟨some 60, some (56, false), false, .un .not (.t 59)⟩,
  ⟨some 61, none, false, .pick (.t 56) (.c (.bool true)) (.t 60)⟩]

def f_trial_CheckTest_r9 : List Abs.Op := [
  ⟨some 2, none, false, .mv (.c (.int .i64 1))⟩]

def f_trial_CheckTest_r10 : List Abs.Op := [
  ⟨some 62, none, false, .bin .add (.t 48) (.c (.int .i64 1))⟩,
  ⟨some 48, none, false, .mv (.t 62)⟩]

def f_trial_CheckTest_l11 : Abs.Cmd :=
  (.seq (.reg [46, 47, 48, 49] f_trial_CheckTest_r6) (.seq (.ite (.t 49) .nop (.exit 0)) (.seq (.blk 1 (.seq (.reg [4, 46, 47, 48] f_trial_CheckTest_r7) (.seq (.reg [46, 47, 48, 61] f_trial_CheckTest_r8) (.ite (.t 61) (.seq (.reg [2] f_trial_CheckTest_r9) .ret) .nop)))) (.reg [46, 47, 48] f_trial_CheckTest_r10))))

def f_trial_CheckTest_r12 : List Abs.Op := [
  ⟨some 2, none, false, .mv (.c (.int .i64 0))⟩]

def a_trial_CheckTest : Ann := ⟨[(11, [2]), (10, [46, 47, 48]), (9, [2]), (8, [46, 47, 48, 61]), (7, [4, 46, 47, 48]), (6, [46, 47, 48, 49]), (5, [46, 47, 48]), (4, [2]), (3, [1, 44]), (2, [2]), (1, [1, 8]), (0, [1])], [(0, [46, 47, 48])], [], [4], [4], [], [], [], [], []⟩
def f_trial_CheckTest : Abs.Fn := ⟨1, [.t 2],
  (.seq (.reg [1] f_trial_CheckTest_r0) (.seq (.seq (.reg [1, 8] f_trial_CheckTest_r1) (.ite (.t 8) (.seq (.reg [2] f_trial_CheckTest_r2) .ret) .nop)) (.seq (.seq (.reg [1, 44] f_trial_CheckTest_r3) (.ite (.t 44) (.seq (.reg [2] f_trial_CheckTest_r4) .ret) .nop)) (.seq (.seq (.reg [46, 47, 48] f_trial_CheckTest_r5) (.blk 0 (.loop [46, 47, 48] false f_trial_CheckTest_l11))) (.seq (.reg [2] f_trial_CheckTest_r12) .ret)))))⟩

theorem e_trial_CheckTest_r0 : type_of% f_trial_CheckTest_r0.eq_1 := by_rfl f_trial_CheckTest_r0.eq_1
theorem e_trial_CheckTest_r1 : type_of% f_trial_CheckTest_r1.eq_1 := by_rfl f_trial_CheckTest_r1.eq_1
theorem e_trial_CheckTest_r2 : type_of% f_trial_CheckTest_r2.eq_1 := by_rfl f_trial_CheckTest_r2.eq_1
theorem e_trial_CheckTest_r3 : type_of% f_trial_CheckTest_r3.eq_1 := by_rfl f_trial_CheckTest_r3.eq_1
theorem e_trial_CheckTest_r4 : type_of% f_trial_CheckTest_r4.eq_1 := by_rfl f_trial_CheckTest_r4.eq_1
theorem e_trial_CheckTest_r5 : type_of% f_trial_CheckTest_r5.eq_1 := by_rfl f_trial_CheckTest_r5.eq_1
theorem e_trial_CheckTest_r6 : type_of% f_trial_CheckTest_r6.eq_1 := by_rfl f_trial_CheckTest_r6.eq_1
theorem e_trial_CheckTest_r7 : type_of% f_trial_CheckTest_r7.eq_1 := by_rfl f_trial_CheckTest_r7.eq_1
theorem e_trial_CheckTest_r8 : type_of% f_trial_CheckTest_r8.eq_1 := by_rfl f_trial_CheckTest_r8.eq_1
theorem e_trial_CheckTest_r9 : type_of% f_trial_CheckTest_r9.eq_1 := by_rfl f_trial_CheckTest_r9.eq_1
theorem e_trial_CheckTest_r10 : type_of% f_trial_CheckTest_r10.eq_1 := by_rfl f_trial_CheckTest_r10.eq_1
theorem e_trial_CheckTest_l11 : type_of% f_trial_CheckTest_l11.eq_1 := by_rfl f_trial_CheckTest_l11.eq_1
theorem e_trial_CheckTest_r12 : type_of% f_trial_CheckTest_r12.eq_1 := by_rfl f_trial_CheckTest_r12.eq_1
theorem e_trial_CheckTest : type_of% f_trial_CheckTest.eq_1 := by_rfl f_trial_CheckTest.eq_1
theorem ok_trial_CheckTest : fnC Try.prog a_trial_CheckTest Try.f19 = some f_trial_CheckTest := by kernel_rfl

/-! 24 fumarole/trial.Curves -/
def f_trial_Curves_r0 : List Abs.Op := [
  ⟨some 1, none, false, .boxi (.t 0)⟩,
  ⟨some 2, none, false, .alc [] [(.int .i64 0)]⟩,
  ⟨some 3, none, false, .alc [] [(.int .i64 0), (.int .i64 0)]⟩,
  ⟨some 4, none, false, .alc [] [(.int .i64 0), (.int .i64 0)]⟩,
  ⟨some 5, none, false, .alc [] [(.int .i64 0), (.int .i64 0)]⟩,
  ⟨some 6, none, false, .mv (.c (.int .i64 0))⟩]

def f_trial_Curves_r1 : List Abs.Op := [
  ⟨some 12, none, false, .ldi true 7 (.t 1)⟩,
  ⟨some 13, none, false, .call false (.c (.fn i_trial_CheckTest [] [])) [(.t 12)]⟩,
  ⟨some 7, none, false, .mv (.t 13)⟩]

def f_trial_Curves_r2 : List Abs.Op := [
  ⟨some 14, none, false, .mv (.t 7)⟩,
  ⟨some 15, none, false, .bin .neq (.t 14) (.c (.int .i64 0))⟩]

def f_trial_Curves_r3 : List Abs.Op := [
  ⟨some 16, none, true, .ld true 2 (.t 3)⟩,
  ⟨some 17, none, true, .ld true 2 (.t 4)⟩,
  ⟨some 18, none, true, .ld true 2 (.t 5)⟩,
  ⟨some 19, none, true, .mv (.t 7)⟩,
  ⟨none, none, true, .stc [3, 4, 5] 1 (.t 2) (.c (.int .i64 0))⟩,
  ⟨none, none, true, .stc [4, 5, 2] 2 (.t 3) (.t 16)⟩,
  ⟨none, none, true, .stc [3, 5, 2] 2 (.t 4) (.t 17)⟩,
  ⟨none, none, true, .stc [3, 4, 2] 2 (.t 5) (.t 18)⟩,
  ⟨some 6, none, false, .mv (.t 19)⟩]

def f_trial_Curves_r4 : List Abs.Op := [
  ⟨some 20, none, false, .ldi true 7 (.t 1)⟩,
  ⟨some 21, none, false, .call true (.c (.fn i_trial_Test_sets [] [])) [(.t 20)]⟩]

def f_trial_Curves_r5 : List Abs.Op := [
  ⟨some 8, none, false, .alcv [] [(.int .i64 0), (.int .i64 0), (.int .i64 0)]⟩,
  ⟨none, none, false, .stv 8 [] 3 8 (.t 22)⟩]

def f_trial_Curves_r6 : List Abs.Op := [
  ⟨some 9, none, false, .alcv [] [(.int .i64 0), (.int .i64 0)]⟩,
  ⟨none, none, false, .stv 9 [] 2 9 (.t 23)⟩]

def f_trial_Curves_r7 : List Abs.Op := [
  ⟨some 24, none, true, .fadr 1 (.t 8)⟩,
  ⟨some 25, none, true, .ldv 8 false 1 24⟩,
  ⟨some 26, none, true, .fadr 1 (.t 8)⟩,
  ⟨some 27, none, true, .ldv 8 false 1 26⟩,
  ⟨some 28, none, true, .bld [(.int .i64 0), (.int .i64 0)] [(0, 1, (.t 25)), (1, 1, (.t 27))]⟩,
  ⟨some 29, none, true, .fadr 2 (.t 8)⟩,
  ⟨some 30, none, true, .ldv 8 false 1 29⟩,
  ⟨some 31, none, true, .fadr 2 (.t 8)⟩,
  ⟨some 32, none, true, .ldv 8 false 1 31⟩,
  ⟨some 33, none, true, .bld [(.int .i64 0), (.int .i64 0)] [(0, 1, (.t 30)), (1, 1, (.t 32))]⟩,
  ⟨some 10, none, true, .alcv [] [(.int .i64 0), (.int .i64 0)]⟩,
  ⟨some 11, none, true, .alcv [] [(.int .i64 0), (.int .i64 0)]⟩,
  ⟨none, none, true, .stv 10 [] 2 10 (.t 28)⟩,
  ⟨none, none, false, .stv 11 [] 2 11 (.t 33)⟩]

def f_trial_Curves_r8 : List Abs.Op := [
  ⟨some 34, none, false, .ld false 1 (.t 2)⟩,
  ⟨some 35, none, false, .bin .eql (.t 34) (.c (.int .i64 0))⟩]

def f_trial_Curves_r9 : List Abs.Op := [
  ⟨some 36, none, true, .ldv 9 true 2 9⟩,
  ⟨some 37, none, true, .ldv 10 true 2 10⟩,
  ⟨some 38, none, true, .ldv 11 true 2 11⟩,
  ⟨none, none, true, .stc [4, 5] 2 (.t 3) (.t 36)⟩,
  ⟨none, none, true, .stc [3, 5] 2 (.t 4) (.t 37)⟩,
  ⟨none, none, false, .stc [3, 4] 2 (.t 5) (.t 38)⟩]

def f_trial_Curves_r10 : List Abs.Op := [
  ⟨some 39, none, false, .ld false 1 (.t 2)⟩,
  ⟨some 40, none, false, .fadr 1 (.t 9)⟩,
  ⟨some 41, none, false, .ldv 9 false 1 40⟩,
  ⟨some 42, none, false, .fadr 0 (.t 9)⟩,
  ⟨some 43, none, false, .ldv 9 false 1 42⟩,
  ⟨some 44, none, false, .bin .sub (.t 41) (.t 43)⟩,
  ⟨some 45, none, false, .bin .add (.t 44) (.c (.int .i64 1))⟩,
  ⟨some 46, none, false, .bin .add (.t 39) (.t 45)⟩,
  ⟨none, none, false, .st [] 1 (.t 2) (.t 46)⟩]

def f_trial_Curves_r11 : List Abs.Op := [
  ⟨some 47, none, true, .ld true 2 (.t 3)⟩,
  ⟨some 48, none, true, .ldv 9 true 2 9⟩,
  ⟨some 49, none, true, .call false (.c (.fn i_trial_span [] [])) [(.t 47), (.t 48)]⟩,
  ⟨some 50, none, true, .ld true 2 (.t 4)⟩,
  ⟨some 51, none, true, .ldv 10 true 2 10⟩,
  ⟨some 52, none, true, .call false (.c (.fn i_trial_span [] [])) [(.t 50), (.t 51)]⟩,
  ⟨some 53, none, true, .ld true 2 (.t 5)⟩,
  ⟨some 54, none, true, .ldv 11 true 2 11⟩,
  ⟨some 55, none, false, .call false (.c (.fn i_trial_span [] [])) [(.t 53), (.t 54)]⟩,
  ⟨none, none, false, .stc [4, 5] 2 (.t 3) (.t 49)⟩,
  ⟨none, none, false, .stc [3, 5] 2 (.t 4) (.t 52)⟩,
  ⟨none, none, false, .stc [3, 4] 2 (.t 5) (.t 55)⟩]

def f_trial_Curves_a12 : Abs.Cmd :=
  (.seq (.reg [2, 3, 4, 5, 8, 23] f_trial_Curves_r5) (.reg [2, 3, 4, 5, 8, 9] f_trial_Curves_r6))

def f_trial_Curves_b12 : Abs.Cmd :=
  (.blk 1 (.seq (.reg [2, 3, 4, 5, 9, 10, 11] f_trial_Curves_r7) (.seq (.seq (.reg [2, 3, 4, 5, 9, 10, 11, 35] f_trial_Curves_r8) (.ite (.t 35) (.reg [2, 3, 4, 5, 9, 10, 11] f_trial_Curves_r9) .nop)) (.seq (.reg [3, 4, 5, 9, 10, 11] f_trial_Curves_r10) (.reg [] f_trial_Curves_r11)))))

def f_trial_Curves_r13 : List Abs.Op := [
  ⟨some 56, none, false, .ld false 1 (.t 2)⟩,
  ⟨some 57, none, false, .bin .eql (.t 56) (.c (.int .i64 0))⟩]

def f_trial_Curves_r14 : List Abs.Op := [
  ⟨some 58, none, true, .ld true 2 (.t 3)⟩,
  ⟨some 59, none, true, .ld true 2 (.t 4)⟩,
  ⟨some 60, none, true, .ld true 2 (.t 5)⟩,
  ⟨none, none, true, .stc [3, 4, 5] 1 (.t 2) (.c (.int .i64 0))⟩,
  ⟨none, none, true, .stc [4, 5, 2] 2 (.t 3) (.t 58)⟩,
  ⟨none, none, true, .stc [3, 5, 2] 2 (.t 4) (.t 59)⟩,
  ⟨none, none, false, .stc [3, 4, 2] 2 (.t 5) (.t 60)⟩,
  ⟨some 6, none, false, .mv (.c (.int .i64 7))⟩]

def f_trial_Curves_r15 : List Abs.Op := [
  ⟨some 61, none, true, .ld false 1 (.t 2)⟩,
  ⟨some 62, none, true, .ld true 2 (.t 3)⟩,
  ⟨some 63, none, true, .ld true 2 (.t 4)⟩,
  ⟨some 64, none, true, .ld true 2 (.t 5)⟩,
  ⟨none, none, true, .stc [3, 4, 5] 1 (.t 2) (.t 61)⟩,
  ⟨none, none, true, .stc [2, 4, 5] 2 (.t 3) (.t 62)⟩,
  ⟨none, none, true, .stc [2, 3, 5] 2 (.t 4) (.t 63)⟩,
  ⟨none, none, false, .stc [2, 3, 4] 2 (.t 5) (.t 64)⟩,
  ⟨some 6, none, false, .mv (.c (.int .i64 0))⟩]

def a_trial_Curves : Ann := ⟨[(14, [2, 3, 4, 5, 6]), (13, [2, 3, 4, 5, 6]), (12, [2, 3, 4, 5, 57]), (11, []), (10, [3, 4, 5, 9, 10, 11]), (9, [2, 3, 4, 5, 9, 10, 11]), (8, [2, 3, 4, 5, 9, 10, 11, 35]), (7, [2, 3, 4, 5, 9, 10, 11]), (6, [2, 3, 4, 5, 8, 9]), (5, [2, 3, 4, 5, 8, 23]), (4, [2, 3, 4, 5, 6, 21]), (3, [2, 3, 4, 5, 6]), (2, [1, 2, 3, 4, 5, 6, 7, 15]), (1, [1, 2, 3, 4, 5, 6, 7]), (0, [1, 2, 3, 4, 5, 6])], [(0, [2, 3, 4, 5, 6])], [], [2, 3, 4, 5, 8, 9, 10, 11], [8, 9, 10, 11], [], [4001], [], [1], [(3004, some [3, 4, 5]), (3005, some [4, 5, 2]), (3006, some [3, 5, 2]), (3007, some [3, 4, 2]), (9003, some [4, 5]), (9004, some [3, 5]), (9005, some [3, 4]), (11009, some [4, 5]), (11010, some [3, 5]), (11011, some [3, 4]), (13003, some [3, 4, 5]), (13004, some [4, 5, 2]), (13005, some [3, 5, 2]), (13006, some [3, 4, 2]), (14004, some [3, 4, 5]), (14005, some [2, 4, 5]), (14006, some [2, 3, 5]), (14007, some [2, 3, 4])]⟩
def f_trial_Curves : Abs.Fn := ⟨1, [.c 2 false 1, .c 3 true 2, .c 4 true 2, .c 5 true 2, .t 6],
  (.seq (.reg [1, 2, 3, 4, 5, 6] f_trial_Curves_r0) (.seq (.seq (.reg [1, 2, 3, 4, 5, 6, 7] f_trial_Curves_r1) (.seq (.reg [1, 2, 3, 4, 5, 6, 7, 15] f_trial_Curves_r2) (.ite (.t 15) (.seq (.reg [2, 3, 4, 5, 6] f_trial_Curves_r3) .ret) .nop))) (.seq (.seq (.reg [2, 3, 4, 5, 6, 21] f_trial_Curves_r4) (.blk 0 (.rngf [2, 3, 4, 5, 6] (.t 21) [22, 23] f_trial_Curves_a12 f_trial_Curves_b12))) (.seq (.seq (.reg [2, 3, 4, 5, 57] f_trial_Curves_r13) (.ite (.t 57) (.seq (.reg [2, 3, 4, 5, 6] f_trial_Curves_r14) .ret) .nop)) (.seq (.reg [2, 3, 4, 5, 6] f_trial_Curves_r15) .ret)))))⟩

theorem e_trial_Curves_r0 : type_of% f_trial_Curves_r0.eq_1 := by_rfl f_trial_Curves_r0.eq_1
theorem e_trial_Curves_r1 : type_of% f_trial_Curves_r1.eq_1 := by_rfl f_trial_Curves_r1.eq_1
theorem e_trial_Curves_r2 : type_of% f_trial_Curves_r2.eq_1 := by_rfl f_trial_Curves_r2.eq_1
theorem e_trial_Curves_r3 : type_of% f_trial_Curves_r3.eq_1 := by_rfl f_trial_Curves_r3.eq_1
theorem e_trial_Curves_r4 : type_of% f_trial_Curves_r4.eq_1 := by_rfl f_trial_Curves_r4.eq_1
theorem e_trial_Curves_r5 : type_of% f_trial_Curves_r5.eq_1 := by_rfl f_trial_Curves_r5.eq_1
theorem e_trial_Curves_r6 : type_of% f_trial_Curves_r6.eq_1 := by_rfl f_trial_Curves_r6.eq_1
theorem e_trial_Curves_r7 : type_of% f_trial_Curves_r7.eq_1 := by_rfl f_trial_Curves_r7.eq_1
theorem e_trial_Curves_r8 : type_of% f_trial_Curves_r8.eq_1 := by_rfl f_trial_Curves_r8.eq_1
theorem e_trial_Curves_r9 : type_of% f_trial_Curves_r9.eq_1 := by_rfl f_trial_Curves_r9.eq_1
theorem e_trial_Curves_r10 : type_of% f_trial_Curves_r10.eq_1 := by_rfl f_trial_Curves_r10.eq_1
theorem e_trial_Curves_r11 : type_of% f_trial_Curves_r11.eq_1 := by_rfl f_trial_Curves_r11.eq_1
theorem e_trial_Curves_a12 : type_of% f_trial_Curves_a12.eq_1 := by_rfl f_trial_Curves_a12.eq_1
theorem e_trial_Curves_b12 : type_of% f_trial_Curves_b12.eq_1 := by_rfl f_trial_Curves_b12.eq_1
theorem e_trial_Curves_r13 : type_of% f_trial_Curves_r13.eq_1 := by_rfl f_trial_Curves_r13.eq_1
theorem e_trial_Curves_r14 : type_of% f_trial_Curves_r14.eq_1 := by_rfl f_trial_Curves_r14.eq_1
theorem e_trial_Curves_r15 : type_of% f_trial_Curves_r15.eq_1 := by_rfl f_trial_Curves_r15.eq_1
theorem e_trial_Curves : type_of% f_trial_Curves.eq_1 := by_rfl f_trial_Curves.eq_1
theorem ok_trial_Curves : fnC Try.prog a_trial_Curves Try.f24 = some f_trial_Curves := by kernel_rfl

/-! 27 fumarole/fumarolelaw04.Range -/
def f_law04_Range_r0 : List Abs.Op := [
  ⟨some 1, none, false, .boxi (.t 0)⟩,
  ⟨some 2, none, false, .alcv [] [(.int .i64 0), (.int .i64 0)]⟩]

def f_law04_Range_r1 : List Abs.Op := [
  ⟨some 3, none, false, .fadr 0 (.t 1)⟩,
  ⟨some 4, none, false, .ld false 1 (.t 3)⟩,
  ⟨some 5, none, false, .fadr 1 (.t 1)⟩,
  ⟨some 6, none, false, .ld false 1 (.t 5)⟩,
  ⟨some 7, none, false, .bld [(.int .i64 0), (.int .i64 0)] [(0, 1, (.t 4)), (1, 1, (.t 6))]⟩,
  ⟨none, none, false, .stv 2 [] 2 2 (.t 7)⟩]

def a_law04_Range : Ann := ⟨[(1, [2]), (0, [1, 2])], [], [], [2], [2], [], [], [], [], []⟩
def f_law04_Range : Abs.Fn := ⟨1, [.v 2 true 2],
  (.seq (.reg [1, 2] f_law04_Range_r0) (.seq (.reg [2] f_law04_Range_r1) .ret))⟩

theorem e_law04_Range_r0 : type_of% f_law04_Range_r0.eq_1 := by_rfl f_law04_Range_r0.eq_1
theorem e_law04_Range_r1 : type_of% f_law04_Range_r1.eq_1 := by_rfl f_law04_Range_r1.eq_1
theorem e_law04_Range : type_of% f_law04_Range.eq_1 := by_rfl f_law04_Range.eq_1
theorem ok_law04_Range : fnC Try.prog a_law04_Range Try.f27 = some f_law04_Range := by kernel_rfl

/-! 28 fumarole/fumaroleref04.In -/
def f_ref04_In_r0 : List Abs.Op := [
  ⟨some 6, none, false, .mv (.c (.bool false))⟩]

def f_ref04_In_r1 : List Abs.Op := [
  ⟨some 7, none, false, .mv (.t 0)⟩,
  ⟨some 8, none, false, .mv (.t 1)⟩,
  ⟨some 9, none, false, .bin .geq (.t 7) (.t 8)⟩,
  ⟨some 10, none, false, .mv (.t 9)⟩,
  ⟨some 11, some (10, true), false, .mv (.t 0)⟩,
  ⟨some 12, some (10, true), false, .mv (.t 2)⟩,
  ⟨some 13, some (10, true), false, .bin .leq (.t 11) (.t 12)⟩,
  ⟨some 14, none, false, .pick (.t 10) (.t 13) (.c (.bool false))⟩,
  ⟨some 6, none, false, .mv (.t 14)⟩]

def a_ref04_In : Ann := ⟨[(1, [6]), (0, [0, 1, 2])], [], [], [], [], [], [], [], [], []⟩
def f_ref04_In : Abs.Fn := ⟨3, [.t 6],
  (.seq (.reg [0, 1, 2] f_ref04_In_r0) (.seq (.reg [6] f_ref04_In_r1) .ret))⟩

theorem e_ref04_In_r0 : type_of% f_ref04_In_r0.eq_1 := by_rfl f_ref04_In_r0.eq_1
theorem e_ref04_In_r1 : type_of% f_ref04_In_r1.eq_1 := by_rfl f_ref04_In_r1.eq_1
theorem e_ref04_In : type_of% f_ref04_In.eq_1 := by_rfl f_ref04_In.eq_1
theorem ok_ref04_In : fnC Try.prog a_ref04_In Try.f28 = some f_ref04_In := by kernel_rfl

/-! 29 fumarole/fumaroleref04.Right -/
def f_ref04_Right_r0 : List Abs.Op := [
  ⟨some 3, none, false, .boxi (.t 0)⟩,
  ⟨some 6, none, false, .mv (.c (.bool false))⟩]

def f_ref04_Right_r1 : List Abs.Op := [
  ⟨some 7, none, false, .fadr 0 (.t 3)⟩,
  ⟨some 8, none, false, .ld false 1 (.t 7)⟩,
  ⟨some 9, none, false, .mv (.t 1)⟩,
  ⟨some 10, none, false, .mv (.t 2)⟩,
  ⟨some 11, none, false, .call false (.c (.fn i_ref04_In [] [])) [(.t 8), (.t 9), (.t 10)]⟩,
  ⟨some 12, none, false, .mv (.t 11)⟩,
  ⟨some 13, some (12, true), false, .fadr 1 (.t 3)⟩,
  ⟨some 14, some (12, true), false, .ld false 1 (.t 13)⟩,
  ⟨some 15, some (12, true), false, .mv (.t 1)⟩,
  ⟨some 16, some (12, true), false, .mv (.t 2)⟩,
  ⟨some 17, some (12, true), false, .call false (.c (.fn i_ref04_In [] [])) [(.t 14), (.t 15), (.t 16)]⟩,
  ⟨some 18, none, false, .pick (.t 12) (.t 17) (.c (.bool false))⟩,
  ⟨some 19, none, false, .mv (.t 18)⟩,
  ⟨some 20, some (19, true), false, .fadr 0 (.t 3)⟩,
  ⟨some 21, some (19, true), false, .ld false 1 (.t 20)⟩,
  ⟨some 22, some (19, true), false, .fadr 1 (.t 3)⟩,
  ⟨some 23, some (19, true), false, .ld false 1 (.t 22)⟩,
  ⟨some 24, some (19, true), false, .bin .leq (.t 21) (.t 23)⟩,
  ⟨some 25, none, false, .pick (.t 19) (.t 24) (.c (.bool false))⟩,
  ⟨some 6, none, false, .mv (.t 25)⟩]

def a_ref04_Right : Ann := ⟨[(1, [6]), (0, [1, 2, 3])], [], [], [], [], [], [], [], [], []⟩
def f_ref04_Right : Abs.Fn := ⟨3, [.t 6],
  (.seq (.reg [1, 2, 3] f_ref04_Right_r0) (.seq (.reg [6] f_ref04_Right_r1) .ret))⟩

theorem e_ref04_Right_r0 : type_of% f_ref04_Right_r0.eq_1 := by_rfl f_ref04_Right_r0.eq_1
theorem e_ref04_Right_r1 : type_of% f_ref04_Right_r1.eq_1 := by_rfl f_ref04_Right_r1.eq_1
theorem e_ref04_Right : type_of% f_ref04_Right.eq_1 := by_rfl f_ref04_Right.eq_1
theorem ok_ref04_Right : fnC Try.prog a_ref04_Right Try.f29 = some f_ref04_Right := by kernel_rfl

/-! 31 fumarole/trial.Drawdown -/
def f_trial_Drawdown_r0 : List Abs.Op := [
  ⟨some 2, none, false, .boxi (.t 0)⟩,
  ⟨some 4, none, false, .alcv [] [(.int .i64 0), (.int .i64 0)]⟩,
  ⟨some 5, none, false, .mv (.c (.int .i64 0))⟩]

def f_trial_Drawdown_r1 : List Abs.Op := [
  ⟨some 9, none, false, .ld true 7 (.t 2)⟩,
  ⟨some 10, none, false, .call false (.c (.fn i_trial_CheckTest [] [])) [(.t 9)]⟩,
  ⟨some 6, none, false, .mv (.t 10)⟩]

def f_trial_Drawdown_r2 : List Abs.Op := [
  ⟨some 11, none, false, .mv (.t 6)⟩,
  ⟨some 12, none, false, .bin .neq (.t 11) (.c (.int .i64 0))⟩]

def f_trial_Drawdown_r3 : List Abs.Op := [
  ⟨some 13, none, false, .bld [(.int .i64 0), (.int .i64 0)] []⟩,
  ⟨some 14, none, false, .mv (.t 6)⟩,
  ⟨none, none, false, .stv 4 [] 2 4 (.t 13)⟩,
  ⟨some 5, none, false, .mv (.t 14)⟩]

def f_trial_Drawdown_r4 : List Abs.Op := [
  ⟨some 15, none, false, .mv (.t 1)⟩,
  ⟨some 16, none, false, .call false (.c (.fn i_trial_within [] [])) [(.t 15), (.c (.int .i64 0)), (.c (.int .i64 1000))]⟩,
  ⟨some 17, none, false, .un .not (.t 16)⟩]

def f_trial_Drawdown_r5 : List Abs.Op := [
  ⟨some 18, none, false, .bld [(.int .i64 0), (.int .i64 0)] []⟩,
  ⟨none, none, false, .stv 4 [] 2 4 (.t 18)⟩,
  ⟨some 5, none, false, .mv (.c (.int .i64 2))⟩]

def f_trial_Drawdown_r6 : List Abs.Op := [
  ⟨some 20, none, false, .ld true 7 (.t 2)⟩,
  ⟨some 21, none, false, .mv (.t 1)⟩,
  ⟨some 22, none, false, .call false (.c (.fn i_trial_Test_drawdown [] [])) [(.t 20), (.t 21)]⟩,
  ⟨some 19, none, false, .mv (.t 22)⟩,
  ⟨some 23, none, false, .ext (.t 19) 0⟩,
  ⟨some 24, none, false, .ext (.t 19) 1⟩,
  ⟨some 7, none, false, .alcv [] [(.int .i64 0), (.int .i64 0)]⟩,
  ⟨none, none, false, .stv 7 [] 2 7 (.t 23)⟩,
  ⟨some 8, none, false, .mv (.t 24)⟩]

def f_trial_Drawdown_r7 : List Abs.Op := [
  ⟨some 25, none, false, .mv (.t 8)⟩,
  ⟨some 26, none, false, .un .not (.t 25)⟩]

def f_trial_Drawdown_r8 : List Abs.Op := [
  ⟨some 27, none, false, .bld [(.int .i64 0), (.int .i64 0)] []⟩,
  ⟨none, none, false, .stv 4 [] 2 4 (.t 27)⟩,
  ⟨some 5, none, false, .mv (.c (.int .i64 7))⟩]

def f_trial_Drawdown_r9 : List Abs.Op := [
  ⟨some 28, none, false, .ldv 7 true 2 7⟩,
  ⟨none, none, false, .stv 4 [] 2 4 (.t 28)⟩,
  ⟨some 5, none, false, .mv (.c (.int .i64 0))⟩]

def a_trial_Drawdown : Ann := ⟨[(9, [4, 5]), (8, [4, 5]), (7, [4, 7, 26]), (6, [4, 7, 8]), (5, [4, 5]), (4, [1, 2, 4, 17]), (3, [4, 5]), (2, [1, 2, 4, 6, 12]), (1, [1, 2, 4, 6]), (0, [1, 2, 4])], [], [], [4, 7], [4, 7], [], [], [], [], []⟩
def f_trial_Drawdown : Abs.Fn := ⟨2, [.v 4 true 2, .t 5],
  (.seq (.reg [1, 2, 4] f_trial_Drawdown_r0) (.seq (.seq (.reg [1, 2, 4, 6] f_trial_Drawdown_r1) (.seq (.reg [1, 2, 4, 6, 12] f_trial_Drawdown_r2) (.ite (.t 12) (.seq (.reg [4, 5] f_trial_Drawdown_r3) .ret) .nop))) (.seq (.seq (.reg [1, 2, 4, 17] f_trial_Drawdown_r4) (.ite (.t 17) (.seq (.reg [4, 5] f_trial_Drawdown_r5) .ret) .nop)) (.seq (.reg [4, 7, 8] f_trial_Drawdown_r6) (.seq (.seq (.reg [4, 7, 26] f_trial_Drawdown_r7) (.ite (.t 26) (.seq (.reg [4, 5] f_trial_Drawdown_r8) .ret) .nop)) (.seq (.reg [4, 5] f_trial_Drawdown_r9) .ret))))))⟩

theorem e_trial_Drawdown_r0 : type_of% f_trial_Drawdown_r0.eq_1 := by_rfl f_trial_Drawdown_r0.eq_1
theorem e_trial_Drawdown_r1 : type_of% f_trial_Drawdown_r1.eq_1 := by_rfl f_trial_Drawdown_r1.eq_1
theorem e_trial_Drawdown_r2 : type_of% f_trial_Drawdown_r2.eq_1 := by_rfl f_trial_Drawdown_r2.eq_1
theorem e_trial_Drawdown_r3 : type_of% f_trial_Drawdown_r3.eq_1 := by_rfl f_trial_Drawdown_r3.eq_1
theorem e_trial_Drawdown_r4 : type_of% f_trial_Drawdown_r4.eq_1 := by_rfl f_trial_Drawdown_r4.eq_1
theorem e_trial_Drawdown_r5 : type_of% f_trial_Drawdown_r5.eq_1 := by_rfl f_trial_Drawdown_r5.eq_1
theorem e_trial_Drawdown_r6 : type_of% f_trial_Drawdown_r6.eq_1 := by_rfl f_trial_Drawdown_r6.eq_1
theorem e_trial_Drawdown_r7 : type_of% f_trial_Drawdown_r7.eq_1 := by_rfl f_trial_Drawdown_r7.eq_1
theorem e_trial_Drawdown_r8 : type_of% f_trial_Drawdown_r8.eq_1 := by_rfl f_trial_Drawdown_r8.eq_1
theorem e_trial_Drawdown_r9 : type_of% f_trial_Drawdown_r9.eq_1 := by_rfl f_trial_Drawdown_r9.eq_1
theorem e_trial_Drawdown : type_of% f_trial_Drawdown.eq_1 := by_rfl f_trial_Drawdown.eq_1
theorem ok_trial_Drawdown : fnC Try.prog a_trial_Drawdown Try.f31 = some f_trial_Drawdown := by kernel_rfl

/-! 32 fumarole/fumaroleref04.SurveyFault -/
def f_ref04_SurveyFault_r0 : List Abs.Op := [
  ⟨some 1, none, false, .boxi (.t 0)⟩,
  ⟨some 2, none, false, .mv (.c (.int .i64 0))⟩]

def f_ref04_SurveyFault_r1 : List Abs.Op := [
  ⟨some 5, none, false, .fadr 2 (.t 1)⟩,
  ⟨some 6, none, false, .ld false 1 (.t 5)⟩,
  ⟨some 7, none, false, .lenS (.t 6)⟩,
  ⟨some 8, none, false, .bin .gtr (.t 7) (.c (.int .i64 60))⟩]

def f_ref04_SurveyFault_r2 : List Abs.Op := [
  ⟨some 2, none, false, .mv (.c (.int .i64 3))⟩]

def f_ref04_SurveyFault_r3 : List Abs.Op := [
  ⟨some 9, none, false, .fadr 0 (.t 1)⟩,
  ⟨some 10, none, false, .ld false 1 (.t 9)⟩,
  ⟨some 11, none, false, .call false (.c (.fn i_ref04_In [] [])) [(.t 10), (.c (.int .i64 1)), (.c (.int .i64 10))]⟩,
  ⟨some 12, none, false, .un .not (.t 11)⟩,
  ⟨some 13, none, false, .mv (.t 12)⟩,
  ⟨some 14, some (13, false), false, .fadr 1 (.t 1)⟩,
  ⟨some 15, some (13, false), false, .ld false 1 (.t 14)⟩,
  ⟨some 16, some (13, false), false, .call false (.c (.fn i_ref04_In [] [])) [(.t 15), (.c (.int .i64 (-2000000000))), (.c (.int .i64 2000000000))]⟩,
  ⟨some 17, some (13, false), false, .un .not (.t 16)⟩,
  ⟨some 18, none, false, .pick (.t 13) (.c (.bool true)) (.t 17)⟩]

def f_ref04_SurveyFault_r4 : List Abs.Op := [
  ⟨some 2, none, false, .mv (.c (.int .i64 1))⟩]

def f_ref04_SurveyFault_r5 : List Abs.Op := [
  ⟨some 3, none, false, .mv (.c (.int .i64 0))⟩]

def f_ref04_SurveyFault_r6 : List Abs.Op := [
  ⟨some 19, none, false, .mv (.t 3)⟩,
  ⟨some 20, none, false, .fadr 2 (.t 1)⟩,
  ⟨some 21, none, false, .ld false 1 (.t 20)⟩,
  ⟨some 22, none, false, .lenS (.t 21)⟩,
  ⟨some 23, none, false, .bin .lss (.t 19) (.t 22)⟩]

def f_ref04_SurveyFault_r7 : List Abs.Op := [
  ⟨some 26, none, false, .fadr 2 (.t 1)⟩,
  ⟨some 27, none, false, .ld false 1 (.t 26)⟩,
  ⟨some 28, none, false, .mv (.t 3)⟩,
  ⟨some 29, none, false, .idxS 4 (.t 27) (.t 28)⟩,
  ⟨some 30, none, false, .ld true 4 (.t 29)⟩,
  ⟨some 4, none, false, .alcv [] [(.int .i64 0), (.int .i64 0), (.int .i64 0), (.int .i64 0)]⟩,
  ⟨none, none, false, .stv 4 [] 4 4 (.t 30)⟩]

def f_ref04_SurveyFault_r8 : List Abs.Op := [
  ⟨some 31, none, false, .fadr 0 (.t 4)⟩,
  ⟨some 32, none, false, .ldv 4 false 1 31⟩,
  ⟨some 33, none, false, .fadr 0 (.t 1)⟩,
  ⟨some 34, none, false, .ld false 1 (.t 33)⟩,
  ⟨some 35, none, false, .bin .sub (.t 34) (.c (.int .i64 1))⟩,
  ⟨some 36, none, false, .call false (.c (.fn i_ref04_In [] [])) [(.t 32), (.c (.int .i64 0)), (.t 35)]⟩,
  ⟨some 37, none, false, .un .not (.t 36)⟩,
  ⟨some 38, none, false, .mv (.t 37)⟩,
  ⟨some 39, some (38, false), false, .fadr 1 (.t 4)⟩,
  ⟨some 40, some (38, false), false, .ldv 4 false 1 39⟩,
  ⟨some 41, some (38, false), false, .fadr 0 (.t 1)⟩,
  ⟨some 42, some (38, false), false, .ld false 1 (.t 41)⟩,
  ⟨some 43, some (38, false), false, .bin .sub (.t 42) (.c (.int .i64 1))⟩,
  ⟨some 44, some (38, false), false, .call false (.c (.fn i_ref04_In [] [])) [(.t 40), (.c (.int .i64 0)), (.t 43)]⟩,
  ⟨some 45, some (38, false), false, .un .not (.t 44)⟩,
  ⟨some 46, none, false, .pick (.t 38) (.c (.bool true)) (.t 45)⟩,
  ⟨some 47, none, false, .mv (.t 46)⟩,
  ⟨some 48, some (47, false), false, .fadr 0 (.t 4)⟩,
  ⟨some 49, some (47, false), false, .ldv 4 false 1 48⟩,
  ⟨some 50, some (47, false), false, .fadr 1 (.t 4)⟩,
  ⟨some 51, some (47, false), false, .ldv 4 false 1 50⟩,
  ⟨some 52, some (47, false), false, .bin .eql (.t 49) (.t 51)⟩,
  ⟨some 53, none, false, .pick (.t 47) (.c (.bool true)) (.t 52)⟩,
  ⟨some 54, none, false, .mv (.t 53)⟩,
  ⟨some 55, some (54, false), false, .fadr 2 (.t 4)⟩,
  ⟨some 56, some (54, false), false, .ldv 4 true 2 55⟩,
  ⟨some 57, some (54, false), false, .call false (.c (.fn i_ref04_Right [] [])) [(.t 56), (.c (.int .i64 (-2000000000))), (.c (.int .i64 2000000000))]⟩,
  ⟨some 58, some (54, false), false, .un .not (.t 57)⟩,
  ⟨some 59, none, false, .pick (.t 54) (.c (.bool true)) (.t 58)⟩]

def f_ref04_SurveyFault_r9 : List Abs.Op := [
  ⟨some 2, none, false, .mv (.c (.int .i64 1))⟩]

def f_ref04_SurveyFault_r10 : List Abs.Op := [
  ⟨some 24, none, false, .mv (.t 3)⟩,
  ⟨some 25, none, false, .bin .add (.t 24) (.c (.int .i64 1))⟩,
  ⟨some 3, none, false, .mv (.t 25)⟩]

def f_ref04_SurveyFault_l11 : Abs.Cmd :=
  (.seq (.seq (.reg [1, 3, 23] f_ref04_SurveyFault_r6) (.ite (.t 23) .nop (.exit 0))) (.seq (.blk 1 (.seq (.reg [1, 3, 4] f_ref04_SurveyFault_r7) (.seq (.reg [1, 3, 59] f_ref04_SurveyFault_r8) (.ite (.t 59) (.seq (.reg [2] f_ref04_SurveyFault_r9) .ret) .nop)))) (.reg [1, 3] f_ref04_SurveyFault_r10)))

def f_ref04_SurveyFault_r12 : List Abs.Op := [
  ⟨some 2, none, false, .mv (.c (.int .i64 0))⟩]

def a_ref04_SurveyFault : Ann := ⟨[(11, [2]), (7, [1, 3]), (10, [2]), (9, [1, 3, 59]), (8, [1, 3, 4]), (6, [1, 3, 23]), (5, [1, 3]), (4, [2]), (3, [1, 18]), (2, [2]), (1, [1, 8]), (0, [1])], [(0, [1, 3])], [], [4], [4], [], [], [], [], []⟩
def f_ref04_SurveyFault : Abs.Fn := ⟨1, [.t 2],
  (.seq (.reg [1] f_ref04_SurveyFault_r0) (.seq (.seq (.reg [1, 8] f_ref04_SurveyFault_r1) (.ite (.t 8) (.seq (.reg [2] f_ref04_SurveyFault_r2) .ret) .nop)) (.seq (.seq (.reg [1, 18] f_ref04_SurveyFault_r3) (.ite (.t 18) (.seq (.reg [2] f_ref04_SurveyFault_r4) .ret) .nop)) (.seq (.seq (.reg [1, 3] f_ref04_SurveyFault_r5) (.blk 0 (.loop [1, 3] false f_ref04_SurveyFault_l11))) (.seq (.reg [2] f_ref04_SurveyFault_r12) .ret)))))⟩

theorem e_ref04_SurveyFault_r0 : type_of% f_ref04_SurveyFault_r0.eq_1 := by_rfl f_ref04_SurveyFault_r0.eq_1
theorem e_ref04_SurveyFault_r1 : type_of% f_ref04_SurveyFault_r1.eq_1 := by_rfl f_ref04_SurveyFault_r1.eq_1
theorem e_ref04_SurveyFault_r2 : type_of% f_ref04_SurveyFault_r2.eq_1 := by_rfl f_ref04_SurveyFault_r2.eq_1
theorem e_ref04_SurveyFault_r3 : type_of% f_ref04_SurveyFault_r3.eq_1 := by_rfl f_ref04_SurveyFault_r3.eq_1
theorem e_ref04_SurveyFault_r4 : type_of% f_ref04_SurveyFault_r4.eq_1 := by_rfl f_ref04_SurveyFault_r4.eq_1
theorem e_ref04_SurveyFault_r5 : type_of% f_ref04_SurveyFault_r5.eq_1 := by_rfl f_ref04_SurveyFault_r5.eq_1
theorem e_ref04_SurveyFault_r6 : type_of% f_ref04_SurveyFault_r6.eq_1 := by_rfl f_ref04_SurveyFault_r6.eq_1
theorem e_ref04_SurveyFault_r7 : type_of% f_ref04_SurveyFault_r7.eq_1 := by_rfl f_ref04_SurveyFault_r7.eq_1
theorem e_ref04_SurveyFault_r8 : type_of% f_ref04_SurveyFault_r8.eq_1 := by_rfl f_ref04_SurveyFault_r8.eq_1
theorem e_ref04_SurveyFault_r9 : type_of% f_ref04_SurveyFault_r9.eq_1 := by_rfl f_ref04_SurveyFault_r9.eq_1
theorem e_ref04_SurveyFault_r10 : type_of% f_ref04_SurveyFault_r10.eq_1 := by_rfl f_ref04_SurveyFault_r10.eq_1
theorem e_ref04_SurveyFault_l11 : type_of% f_ref04_SurveyFault_l11.eq_1 := by_rfl f_ref04_SurveyFault_l11.eq_1
theorem e_ref04_SurveyFault_r12 : type_of% f_ref04_SurveyFault_r12.eq_1 := by_rfl f_ref04_SurveyFault_r12.eq_1
theorem e_ref04_SurveyFault : type_of% f_ref04_SurveyFault.eq_1 := by_rfl f_ref04_SurveyFault.eq_1
theorem ok_ref04_SurveyFault : fnC Try.prog a_ref04_SurveyFault Try.f32 = some f_ref04_SurveyFault := by kernel_rfl

/-! 33 fumarole/fumaroleref04.Clash -/
def f_ref04_Clash_r0 : List Abs.Op := [
  ⟨some 1, none, false, .boxi (.t 0)⟩,
  ⟨some 2, none, false, .mv (.c (.int .i64 0))⟩]

def f_ref04_Clash_r1 : List Abs.Op := [
  ⟨some 6, none, false, .ld true 3 (.t 1)⟩,
  ⟨some 7, none, false, .call false (.c (.fn i_ref04_Groups [] [])) [(.t 6)]⟩,
  ⟨some 3, none, false, .mv (.t 7)⟩]

def f_ref04_Clash_r2 : List Abs.Op := [
  ⟨some 4, none, false, .mv (.c (.int .i64 0))⟩]

def f_ref04_Clash_r3 : List Abs.Op := [
  ⟨some 8, none, false, .mv (.t 4)⟩,
  ⟨some 9, none, false, .fadr 2 (.t 1)⟩,
  ⟨some 10, none, false, .ld false 1 (.t 9)⟩,
  ⟨some 11, none, false, .lenS (.t 10)⟩,
  ⟨some 12, none, false, .bin .lss (.t 8) (.t 11)⟩]

def f_ref04_Clash_r4 : List Abs.Op := [
  ⟨some 15, none, false, .fadr 2 (.t 1)⟩,
  ⟨some 16, none, false, .ld false 1 (.t 15)⟩,
  ⟨some 17, none, false, .mv (.t 4)⟩,
  ⟨some 18, none, false, .idxS 4 (.t 16) (.t 17)⟩,
  ⟨some 19, none, false, .ld true 4 (.t 18)⟩,
  ⟨some 5, none, false, .alcv [] [(.int .i64 0), (.int .i64 0), (.int .i64 0), (.int .i64 0)]⟩,
  ⟨none, none, false, .stv 5 [] 4 5 (.t 19)⟩]

def f_ref04_Clash_r5 : List Abs.Op := [
  ⟨some 20, none, true, .ld true 3 (.t 1)⟩,
  ⟨some 21, none, true, .ldv 5 true 4 5⟩,
  ⟨some 22, none, true, .call false (.c (.fn i_ref04_Against [] [])) [(.t 20), (.t 21)]⟩,
  ⟨some 23, none, true, .mv (.t 22)⟩,
  ⟨some 24, some (23, true), true, .mv (.t 3)⟩,
  ⟨some 25, some (23, true), true, .fadr 0 (.t 5)⟩,
  ⟨some 26, some (23, true), true, .ldv 5 false 1 25⟩,
  ⟨some 27, some (23, true), true, .idxS 1 (.t 24) (.t 26)⟩,
  ⟨some 28, some (23, true), true, .ld false 1 (.t 27)⟩,
  ⟨some 29, some (23, true), true, .mv (.t 3)⟩,
  ⟨some 30, some (23, true), true, .fadr 1 (.t 5)⟩,
  ⟨some 31, some (23, true), true, .ldv 5 false 1 30⟩,
  ⟨some 32, some (23, true), true, .idxS 1 (.t 29) (.t 31)⟩,
  ⟨some 33, some (23, true), true, .ld false 1 (.t 32)⟩,
  ⟨some 34, some (23, true), false, .bin .eql (.t 28) (.t 33)⟩,
  ⟨some 35, none, false, .pick (.t 23) (.t 34) (.c (.bool false))⟩]

def f_ref04_Clash_r6 : List Abs.Op := [
  ⟨some 36, none, false, .mv (.t 4)⟩,
  ⟨some 2, none, false, .mv (.t 36)⟩]

def f_ref04_Clash_r7 : List Abs.Op := [
  ⟨some 13, none, false, .mv (.t 4)⟩,
  ⟨some 14, none, false, .bin .add (.t 13) (.c (.int .i64 1))⟩,
  ⟨some 4, none, false, .mv (.t 14)⟩]

def f_ref04_Clash_l8 : Abs.Cmd :=
  (.seq (.seq (.reg [1, 3, 4, 12] f_ref04_Clash_r3) (.ite (.t 12) .nop (.exit 0))) (.seq (.blk 1 (.seq (.reg [1, 3, 4, 5] f_ref04_Clash_r4) (.seq (.reg [1, 3, 4, 35] f_ref04_Clash_r5) (.ite (.t 35) (.seq (.reg [2] f_ref04_Clash_r6) .ret) .nop)))) (.reg [1, 3, 4] f_ref04_Clash_r7)))

def f_ref04_Clash_r9 : List Abs.Op := [
  ⟨some 2, none, false, .mv (.c (.int .i64 (-1)))⟩]

def a_ref04_Clash : Ann := ⟨[(8, [2]), (4, [1, 3, 4]), (7, [2]), (6, [1, 3, 4, 35]), (5, [1, 3, 4, 5]), (3, [1, 3, 4, 12]), (2, [1, 3, 4]), (1, [1, 3]), (0, [1])], [(0, [1, 3, 4])], [], [5], [5], [], [], [], [], []⟩
def f_ref04_Clash : Abs.Fn := ⟨1, [.t 2],
  (.seq (.reg [1] f_ref04_Clash_r0) (.seq (.reg [1, 3] f_ref04_Clash_r1) (.seq (.seq (.reg [1, 3, 4] f_ref04_Clash_r2) (.blk 0 (.loop [1, 3, 4] false f_ref04_Clash_l8))) (.seq (.reg [2] f_ref04_Clash_r9) .ret))))⟩

theorem e_ref04_Clash_r0 : type_of% f_ref04_Clash_r0.eq_1 := by_rfl f_ref04_Clash_r0.eq_1
theorem e_ref04_Clash_r1 : type_of% f_ref04_Clash_r1.eq_1 := by_rfl f_ref04_Clash_r1.eq_1
theorem e_ref04_Clash_r2 : type_of% f_ref04_Clash_r2.eq_1 := by_rfl f_ref04_Clash_r2.eq_1
theorem e_ref04_Clash_r3 : type_of% f_ref04_Clash_r3.eq_1 := by_rfl f_ref04_Clash_r3.eq_1
theorem e_ref04_Clash_r4 : type_of% f_ref04_Clash_r4.eq_1 := by_rfl f_ref04_Clash_r4.eq_1
theorem e_ref04_Clash_r5 : type_of% f_ref04_Clash_r5.eq_1 := by_rfl f_ref04_Clash_r5.eq_1
theorem e_ref04_Clash_r6 : type_of% f_ref04_Clash_r6.eq_1 := by_rfl f_ref04_Clash_r6.eq_1
theorem e_ref04_Clash_r7 : type_of% f_ref04_Clash_r7.eq_1 := by_rfl f_ref04_Clash_r7.eq_1
theorem e_ref04_Clash_l8 : type_of% f_ref04_Clash_l8.eq_1 := by_rfl f_ref04_Clash_l8.eq_1
theorem e_ref04_Clash_r9 : type_of% f_ref04_Clash_r9.eq_1 := by_rfl f_ref04_Clash_r9.eq_1
theorem e_ref04_Clash : type_of% f_ref04_Clash.eq_1 := by_rfl f_ref04_Clash.eq_1
theorem ok_ref04_Clash : fnC Try.prog a_ref04_Clash Try.f33 = some f_ref04_Clash := by kernel_rfl

/-! 34 fumarole/trial.Relations -/
def f_trial_Relations_r0 : List Abs.Op := [
  ⟨some 1, none, false, .boxi (.t 0)⟩,
  ⟨some 2, none, false, .mv (.c .nils)⟩,
  ⟨some 3, none, false, .mv (.c (.int .i64 0))⟩]

def f_trial_Relations_r1 : List Abs.Op := [
  ⟨some 11, none, false, .ld true 3 (.t 1)⟩,
  ⟨some 12, none, false, .call false (.c (.fn i_trial_checked [] [])) [(.t 11)]⟩,
  ⟨some 10, none, false, .mv (.t 12)⟩,
  ⟨some 13, none, false, .ext (.t 10) 0⟩,
  ⟨some 14, none, false, .ext (.t 10) 1⟩,
  ⟨some 4, none, false, .alcv [] [(.int .i64 0), (.int .i64 0), .nils, (.int .i64 0), (.int .i64 0), (.int .i64 0), (.int .i64 0), (.int .i64 0), (.int .i64 0), (.int .i64 0), (.int .i64 0), (.int .i64 0), (.int .i64 0)]⟩,
  ⟨none, none, false, .stv 4 [] 13 4 (.t 13)⟩,
  ⟨some 5, none, false, .mv (.t 14)⟩]

def f_trial_Relations_r2 : List Abs.Op := [
  ⟨some 15, none, false, .mv (.t 5)⟩,
  ⟨some 16, none, false, .bin .neq (.t 15) (.c (.int .i64 0))⟩]

def f_trial_Relations_r3 : List Abs.Op := [
  ⟨some 17, none, false, .mv (.t 5)⟩,
  ⟨some 2, none, false, .mv (.c .nils)⟩,
  ⟨some 3, none, false, .mv (.t 17)⟩]

def f_trial_Relations_r4 : List Abs.Op := [
  ⟨some 6, none, false, .nilb 1⟩]

def f_trial_Relations_r5 : List Abs.Op := [
  ⟨some 18, none, false, .fadr 0 (.t 1)⟩,
  ⟨some 19, none, false, .ld false 1 (.t 18)⟩,
  ⟨some 20, none, false, .mv (.c (.int .i64 0))⟩]

def f_trial_Relations_r6 : List Abs.Op := [
  ⟨some 21, none, false, .bin .lss (.t 20) (.t 19)⟩]

def f_trial_Relations_r7 : List Abs.Op := [
  ⟨some 22, none, false, .mv (.t 20)⟩,
  ⟨some 7, none, false, .mv (.t 22)⟩]

def f_trial_Relations_r8 : List Abs.Op := [
  ⟨some 8, none, false, .nilb 1⟩]

def f_trial_Relations_r9 : List Abs.Op := [
  ⟨some 23, none, false, .fadr 0 (.t 1)⟩,
  ⟨some 24, none, false, .ld false 1 (.t 23)⟩,
  ⟨some 25, none, false, .mv (.c (.int .i64 0))⟩]

def f_trial_Relations_r10 : List Abs.Op := [
  ⟨some 26, none, false, .bin .lss (.t 25) (.t 24)⟩]

def f_trial_Relations_r11 : List Abs.Op := [
  ⟨some 27, none, false, .mv (.t 25)⟩,
  ⟨some 9, none, false, .mv (.t 27)⟩]

def f_trial_Relations_r12 : List Abs.Op := [
  ⟨some 28, none, false, .mv (.t 8)⟩,
  ⟨some 29, none, false, .ldv 4 true 13 4⟩,
  ⟨some 30, none, false, .mv (.t 7)⟩,
  ⟨some 31, none, false, .mv (.t 9)⟩,
  ⟨some 32, none, false, .call false (.c (.fn i_trial_parted_relation [] [])) [(.t 29), (.t 30), (.t 31)]⟩,
  ⟨some 33, none, false, .bsi 1 1 [(.int .u8 0)] [(0, 1, (.t 32))]⟩,
  ⟨some 34, none, false, .app 1 1 (.t 28) (.t 33)⟩,
  ⟨some 8, none, false, .mv (.t 34)⟩]

def f_trial_Relations_r13 : List Abs.Op := [
  ⟨some 35, none, false, .bin .add (.t 25) (.c (.int .i64 1))⟩,
  ⟨some 25, none, false, .mv (.t 35)⟩]

def f_trial_Relations_l14 : Abs.Cmd :=
  (.seq (.reg [1, 4, 6, 7, 8, 19, 20, 24, 25, 26] f_trial_Relations_r10) (.seq (.ite (.t 26) .nop (.exit 2)) (.seq (.blk 3 (.seq (.reg [1, 4, 6, 7, 8, 9, 19, 20, 24, 25] f_trial_Relations_r11) (.reg [1, 4, 6, 7, 8, 19, 20, 24, 25] f_trial_Relations_r12))) (.reg [1, 4, 6, 7, 8, 19, 20, 24, 25] f_trial_Relations_r13))))

def f_trial_Relations_r15 : List Abs.Op := [
  ⟨some 36, none, false, .mv (.t 6)⟩,
  ⟨some 37, none, false, .mv (.t 8)⟩,
  ⟨some 38, none, false, .bsi 1 1 [.nils] [(0, 1, (.t 37))]⟩,
  ⟨some 39, none, false, .app 1 24 (.t 36) (.t 38)⟩,
  ⟨some 6, none, false, .mv (.t 39)⟩]

def f_trial_Relations_r16 : List Abs.Op := [
  ⟨some 40, none, false, .bin .add (.t 20) (.c (.int .i64 1))⟩,
  ⟨some 20, none, false, .mv (.t 40)⟩]

def f_trial_Relations_l17 : Abs.Cmd :=
  (.seq (.reg [1, 4, 6, 19, 20, 21] f_trial_Relations_r6) (.seq (.ite (.t 21) .nop (.exit 0)) (.seq (.blk 1 (.seq (.reg [1, 4, 6, 7, 19, 20] f_trial_Relations_r7) (.seq (.reg [1, 4, 6, 7, 8, 19, 20] f_trial_Relations_r8) (.seq (.seq (.reg [1, 4, 6, 7, 8, 19, 20, 24, 25] f_trial_Relations_r9) (.blk 2 (.loop [1, 4, 6, 7, 8, 19, 20, 24, 25] false f_trial_Relations_l14))) (.reg [1, 4, 6, 19, 20] f_trial_Relations_r15))))) (.reg [1, 4, 6, 19, 20] f_trial_Relations_r16))))

def f_trial_Relations_r18 : List Abs.Op := [
  ⟨some 41, none, false, .mv (.t 6)⟩,
  ⟨some 2, none, false, .mv (.t 41)⟩,
  ⟨some 3, none, false, .mv (.c (.int .i64 0))⟩]

def a_trial_Relations : Ann := ⟨[(16, [2, 3]), (15, [1, 4, 6, 19, 20]), (14, [1, 4, 6, 19, 20]), (13, [1, 4, 6, 7, 8, 19, 20, 24, 25]), (12, [1, 4, 6, 7, 8, 19, 20, 24, 25]), (11, [1, 4, 6, 7, 8, 9, 19, 20, 24, 25]), (10, [1, 4, 6, 7, 8, 19, 20, 24, 25, 26]), (9, [1, 4, 6, 7, 8, 19, 20, 24, 25]), (8, [1, 4, 6, 7, 8, 19, 20]), (7, [1, 4, 6, 7, 19, 20]), (6, [1, 4, 6, 19, 20, 21]), (5, [1, 4, 6, 19, 20]), (4, [1, 4, 6]), (3, [2, 3]), (2, [1, 4, 5, 16]), (1, [1, 4, 5]), (0, [1])], [(2, [1, 4, 6, 7, 8, 19, 20, 24, 25]), (0, [1, 4, 6, 19, 20])], [0], [4, 6, 8], [4], [], [], [], [], []⟩
def f_trial_Relations : Abs.Fn := ⟨1, [.t 2, .t 3],
  (.seq (.reg [1] f_trial_Relations_r0) (.seq (.reg [1, 4, 5] f_trial_Relations_r1) (.seq (.seq (.reg [1, 4, 5, 16] f_trial_Relations_r2) (.ite (.t 16) (.seq (.reg [2, 3] f_trial_Relations_r3) .ret) .nop)) (.seq (.reg [1, 4, 6] f_trial_Relations_r4) (.seq (.seq (.reg [1, 4, 6, 19, 20] f_trial_Relations_r5) (.blk 0 (.loop [1, 4, 6, 19, 20] true f_trial_Relations_l17))) (.seq (.reg [2, 3] f_trial_Relations_r18) .ret))))))⟩

theorem e_trial_Relations_r0 : type_of% f_trial_Relations_r0.eq_1 := by_rfl f_trial_Relations_r0.eq_1
theorem e_trial_Relations_r1 : type_of% f_trial_Relations_r1.eq_1 := by_rfl f_trial_Relations_r1.eq_1
theorem e_trial_Relations_r2 : type_of% f_trial_Relations_r2.eq_1 := by_rfl f_trial_Relations_r2.eq_1
theorem e_trial_Relations_r3 : type_of% f_trial_Relations_r3.eq_1 := by_rfl f_trial_Relations_r3.eq_1
theorem e_trial_Relations_r4 : type_of% f_trial_Relations_r4.eq_1 := by_rfl f_trial_Relations_r4.eq_1
theorem e_trial_Relations_r5 : type_of% f_trial_Relations_r5.eq_1 := by_rfl f_trial_Relations_r5.eq_1
theorem e_trial_Relations_r6 : type_of% f_trial_Relations_r6.eq_1 := by_rfl f_trial_Relations_r6.eq_1
theorem e_trial_Relations_r7 : type_of% f_trial_Relations_r7.eq_1 := by_rfl f_trial_Relations_r7.eq_1
theorem e_trial_Relations_r8 : type_of% f_trial_Relations_r8.eq_1 := by_rfl f_trial_Relations_r8.eq_1
theorem e_trial_Relations_r9 : type_of% f_trial_Relations_r9.eq_1 := by_rfl f_trial_Relations_r9.eq_1
theorem e_trial_Relations_r10 : type_of% f_trial_Relations_r10.eq_1 := by_rfl f_trial_Relations_r10.eq_1
theorem e_trial_Relations_r11 : type_of% f_trial_Relations_r11.eq_1 := by_rfl f_trial_Relations_r11.eq_1
theorem e_trial_Relations_r12 : type_of% f_trial_Relations_r12.eq_1 := by_rfl f_trial_Relations_r12.eq_1
theorem e_trial_Relations_r13 : type_of% f_trial_Relations_r13.eq_1 := by_rfl f_trial_Relations_r13.eq_1
theorem e_trial_Relations_l14 : type_of% f_trial_Relations_l14.eq_1 := by_rfl f_trial_Relations_l14.eq_1
theorem e_trial_Relations_r15 : type_of% f_trial_Relations_r15.eq_1 := by_rfl f_trial_Relations_r15.eq_1
theorem e_trial_Relations_r16 : type_of% f_trial_Relations_r16.eq_1 := by_rfl f_trial_Relations_r16.eq_1
theorem e_trial_Relations_l17 : type_of% f_trial_Relations_l17.eq_1 := by_rfl f_trial_Relations_l17.eq_1
theorem e_trial_Relations_r18 : type_of% f_trial_Relations_r18.eq_1 := by_rfl f_trial_Relations_r18.eq_1
theorem e_trial_Relations : type_of% f_trial_Relations.eq_1 := by_rfl f_trial_Relations.eq_1
theorem ok_trial_Relations : fnC Try.prog a_trial_Relations Try.f34 = some f_trial_Relations := by kernel_rfl

/-! 35 fumarole/fumarolelaw04.Survey -/
def f_law04_Survey_r0 : List Abs.Op := [
  ⟨some 1, none, false, .boxi (.t 0)⟩,
  ⟨some 2, none, false, .alcv [] [(.int .i64 0), (.int .i64 0), .nils]⟩]

def f_law04_Survey_r1 : List Abs.Op := [
  ⟨some 5, none, false, .fadr 0 (.t 1)⟩,
  ⟨some 6, none, false, .ld false 1 (.t 5)⟩,
  ⟨some 7, none, false, .fadr 1 (.t 1)⟩,
  ⟨some 8, none, false, .ld false 1 (.t 7)⟩,
  ⟨some 9, none, false, .bld [(.int .i64 0), (.int .i64 0), .nils] [(0, 1, (.t 6)), (1, 1, (.t 8))]⟩,
  ⟨some 3, none, false, .alcv [] [(.int .i64 0), (.int .i64 0), .nils]⟩,
  ⟨none, none, false, .stv 3 [(2, 4)] 3 3 (.t 9)⟩]

def f_law04_Survey_r2 : List Abs.Op := [
  ⟨some 4, none, false, .mv (.c (.int .i64 0))⟩]

def f_law04_Survey_r3 : List Abs.Op := [
  ⟨some 10, none, false, .mv (.t 4)⟩,
  ⟨some 11, none, false, .fadr 2 (.t 1)⟩,
  ⟨some 12, none, false, .ld false 1 (.t 11)⟩,
  ⟨some 13, none, false, .lenS (.t 12)⟩,
  ⟨some 14, none, false, .bin .lss (.t 10) (.t 13)⟩]

def f_law04_Survey_r4 : List Abs.Op := [
  ⟨some 17, none, true, .fadr 2 (.t 3)⟩,
  ⟨some 18, none, true, .ldv 3 false 1 17⟩,
  ⟨some 19, none, true, .fadr 2 (.t 1)⟩,
  ⟨some 20, none, true, .ld false 1 (.t 19)⟩,
  ⟨some 21, none, true, .mv (.t 4)⟩,
  ⟨some 22, none, true, .idxS 4 (.t 20) (.t 21)⟩,
  ⟨some 23, none, true, .fadr 0 (.t 22)⟩,
  ⟨some 24, none, true, .ld false 1 (.t 23)⟩,
  ⟨some 25, none, true, .fadr 2 (.t 1)⟩,
  ⟨some 26, none, true, .ld false 1 (.t 25)⟩,
  ⟨some 27, none, true, .mv (.t 4)⟩,
  ⟨some 28, none, true, .idxS 4 (.t 26) (.t 27)⟩,
  ⟨some 29, none, true, .fadr 1 (.t 28)⟩,
  ⟨some 30, none, true, .ld false 1 (.t 29)⟩,
  ⟨some 31, none, true, .fadr 2 (.t 1)⟩,
  ⟨some 32, none, true, .ld false 1 (.t 31)⟩,
  ⟨some 33, none, true, .mv (.t 4)⟩,
  ⟨some 34, none, true, .idxS 4 (.t 32) (.t 33)⟩,
  ⟨some 35, none, true, .fadr 2 (.t 34)⟩,
  ⟨some 36, none, true, .ld true 2 (.t 35)⟩,
  ⟨some 37, none, true, .call false (.c (.fn i_law04_Range [] [])) [(.t 36)]⟩,
  ⟨some 38, none, true, .bld [(.int .i64 0), (.int .i64 0), (.int .i64 0), (.int .i64 0)] [(0, 1, (.t 24)), (1, 1, (.t 30)), (2, 2, (.t 37))]⟩,
  ⟨some 39, none, true, .bsi 1 4 [(.int .i64 0), (.int .i64 0), (.int .i64 0), (.int .i64 0)] [(0, 4, (.t 38))]⟩,
  ⟨some 40, none, false, .app 4 32 (.t 18) (.t 39)⟩,
  ⟨some 41, none, false, .fadr 2 (.t 3)⟩,
  ⟨none, none, false, .stv 3 [(0, 4)] 1 41 (.t 40)⟩]

def f_law04_Survey_r5 : List Abs.Op := [
  ⟨some 15, none, false, .mv (.t 4)⟩,
  ⟨some 16, none, false, .bin .add (.t 15) (.c (.int .i64 1))⟩,
  ⟨some 4, none, false, .mv (.t 16)⟩]

def f_law04_Survey_l6 : Abs.Cmd :=
  (.seq (.seq (.reg [1, 2, 3, 4, 14] f_law04_Survey_r3) (.ite (.t 14) .nop (.exit 0))) (.seq (.blk 1 (.reg [1, 2, 3, 4] f_law04_Survey_r4)) (.reg [1, 2, 3, 4] f_law04_Survey_r5)))

def f_law04_Survey_r7 : List Abs.Op := [
  ⟨some 42, none, false, .ldv 3 true 3 3⟩,
  ⟨none, none, false, .stv 2 [] 3 2 (.t 42)⟩]

def a_law04_Survey : Ann := ⟨[(6, [2]), (4, [1, 2, 3, 4]), (5, [1, 2, 3, 4]), (3, [1, 2, 3, 4, 14]), (2, [1, 2, 3, 4]), (1, [1, 2, 3]), (0, [1, 2])], [(0, [1, 2, 3, 4])], [], [2, 3], [2, 3], [(1006, [(2, 4)]), (5025, [(0, 4)])], [], [], [], []⟩
def f_law04_Survey : Abs.Fn := ⟨1, [.v 2 true 3],
  (.seq (.reg [1, 2] f_law04_Survey_r0) (.seq (.reg [1, 2, 3] f_law04_Survey_r1) (.seq (.seq (.reg [1, 2, 3, 4] f_law04_Survey_r2) (.blk 0 (.loop [1, 2, 3, 4] false f_law04_Survey_l6))) (.seq (.reg [2] f_law04_Survey_r7) .ret))))⟩

theorem e_law04_Survey_r0 : type_of% f_law04_Survey_r0.eq_1 := by_rfl f_law04_Survey_r0.eq_1
theorem e_law04_Survey_r1 : type_of% f_law04_Survey_r1.eq_1 := by_rfl f_law04_Survey_r1.eq_1
theorem e_law04_Survey_r2 : type_of% f_law04_Survey_r2.eq_1 := by_rfl f_law04_Survey_r2.eq_1
theorem e_law04_Survey_r3 : type_of% f_law04_Survey_r3.eq_1 := by_rfl f_law04_Survey_r3.eq_1
theorem e_law04_Survey_r4 : type_of% f_law04_Survey_r4.eq_1 := by_rfl f_law04_Survey_r4.eq_1
theorem e_law04_Survey_r5 : type_of% f_law04_Survey_r5.eq_1 := by_rfl f_law04_Survey_r5.eq_1
theorem e_law04_Survey_l6 : type_of% f_law04_Survey_l6.eq_1 := by_rfl f_law04_Survey_l6.eq_1
theorem e_law04_Survey_r7 : type_of% f_law04_Survey_r7.eq_1 := by_rfl f_law04_Survey_r7.eq_1
theorem e_law04_Survey : type_of% f_law04_Survey.eq_1 := by_rfl f_law04_Survey.eq_1
theorem ok_law04_Survey : fnC Try.prog a_law04_Survey Try.f35 = some f_law04_Survey := by kernel_rfl

/-! 36 fumarole/trial.Plan -/
def f_trial_Plan_r0 : List Abs.Op := [
  ⟨some 1, none, false, .boxi (.t 0)⟩,
  ⟨some 2, none, false, .mv (.c .nils)⟩,
  ⟨some 3, none, false, .mv (.c (.int .i64 0))⟩]

def f_trial_Plan_r1 : List Abs.Op := [
  ⟨some 12, none, false, .ld true 3 (.t 1)⟩,
  ⟨some 13, none, false, .call false (.c (.fn i_trial_checked [] [])) [(.t 12)]⟩,
  ⟨some 11, none, false, .mv (.t 13)⟩,
  ⟨some 14, none, false, .ext (.t 11) 0⟩,
  ⟨some 15, none, false, .ext (.t 11) 1⟩,
  ⟨some 4, none, false, .alc [] [(.int .i64 0), (.int .i64 0), .nils, (.int .i64 0), (.int .i64 0), (.int .i64 0), (.int .i64 0), (.int .i64 0), (.int .i64 0), (.int .i64 0), (.int .i64 0), (.int .i64 0), (.int .i64 0)]⟩,
  ⟨none, none, false, .st [] 13 (.t 4) (.t 14)⟩,
  ⟨some 5, none, false, .mv (.t 15)⟩]

def f_trial_Plan_r2 : List Abs.Op := [
  ⟨some 16, none, false, .mv (.t 5)⟩,
  ⟨some 17, none, false, .bin .neq (.t 16) (.c (.int .i64 0))⟩]

def f_trial_Plan_r3 : List Abs.Op := [
  ⟨some 18, none, false, .mv (.t 5)⟩,
  ⟨some 2, none, false, .mv (.c .nils)⟩,
  ⟨some 3, none, false, .mv (.t 18)⟩]

def f_trial_Plan_r4 : List Abs.Op := [
  ⟨some 6, none, false, .alc [(0, 1)] [.nils]⟩]

def f_trial_Plan_r5 : List Abs.Op := [
  ⟨some 19, none, false, .mkf i_trial_Plan_1 [] [(.t 6), (.t 4)]⟩,
  ⟨some 7, none, false, .alc [] [.nilf]⟩,
  ⟨none, none, false, .st [] 1 (.t 7) (.t 19)⟩]

def f_trial_Plan_r6 : List Abs.Op := [
  ⟨some 20, none, false, .mkf i_trial_Plan_2 [] [(.t 1), (.t 4), (.t 7)]⟩,
  ⟨some 8, none, false, .alc [] [.nilf]⟩,
  ⟨none, none, false, .st [] 1 (.t 8) (.t 20)⟩]

def f_trial_Plan_r7 : List Abs.Op := [
  ⟨some 9, none, false, .alc [] [.nilf]⟩]

def f_trial_Plan_r8 : List Abs.Op := [
  ⟨some 21, none, false, .mkf i_trial_Plan_3 [] [(.t 8), (.t 1), (.t 6), (.t 9)]⟩,
  ⟨none, none, false, .st [] 1 (.t 9) (.t 21)⟩]

def f_trial_Plan_r9 : List Abs.Op := [
  ⟨some 10, none, false, .mv (.c (.int .i64 0))⟩]

def f_trial_Plan_r10 : List Abs.Op := [
  ⟨some 22, none, false, .ld false 1 (.t 9)⟩,
  ⟨some 23, none, false, .mv (.t 10)⟩,
  ⟨some 24, none, false, .call false (.t 22) [(.c (.int .i64 0)), (.t 23)]⟩,
  ⟨some 25, none, false, .un .not (.t 24)⟩]

def f_trial_Plan_r11 : List Abs.Op := [
  ⟨some 26, none, false, .mv (.t 10)⟩,
  ⟨some 27, none, false, .bin .add (.t 26) (.c (.int .i64 1))⟩,
  ⟨some 10, none, false, .mv (.t 27)⟩]

def f_trial_Plan_l12 : Abs.Cmd :=
  (.seq (.seq (.reg [6, 9, 10, 25] f_trial_Plan_r10) (.ite (.t 25) .nop (.exit 0))) (.seq (.blk 1 .nop) (.reg [6, 9, 10] f_trial_Plan_r11)))

def f_trial_Plan_r13 : List Abs.Op := [
  ⟨some 28, none, false, .ld false 1 (.t 6)⟩,
  ⟨some 2, none, false, .mv (.t 28)⟩,
  ⟨some 3, none, false, .mv (.c (.int .i64 0))⟩]

def a_trial_Plan : Ann := ⟨[(12, [2, 3]), (11, [6, 9, 10]), (10, [6, 9, 10, 25]), (9, [6, 9, 10]), (8, [6, 9]), (7, [1, 6, 8, 9]), (6, [1, 6, 8]), (5, [1, 4, 6, 7]), (4, [1, 4, 6]), (3, [2, 3]), (2, [1, 4, 5, 17]), (1, [1, 4, 5]), (0, [1])], [(0, [6, 9, 10])], [], [4, 6, 7, 8, 9], [], [(4000, [(0, 1)])], [], [], [], []⟩
def f_trial_Plan : Abs.Fn := ⟨1, [.t 2, .t 3],
  (.seq (.reg [1] f_trial_Plan_r0) (.seq (.reg [1, 4, 5] f_trial_Plan_r1) (.seq (.seq (.reg [1, 4, 5, 17] f_trial_Plan_r2) (.ite (.t 17) (.seq (.reg [2, 3] f_trial_Plan_r3) .ret) .nop)) (.seq (.reg [1, 4, 6] f_trial_Plan_r4) (.seq (.reg [1, 4, 6, 7] f_trial_Plan_r5) (.seq (.reg [1, 6, 8] f_trial_Plan_r6) (.seq (.reg [1, 6, 8, 9] f_trial_Plan_r7) (.seq (.reg [6, 9] f_trial_Plan_r8) (.seq (.seq (.reg [6, 9, 10] f_trial_Plan_r9) (.blk 0 (.loop [6, 9, 10] false f_trial_Plan_l12))) (.seq (.reg [2, 3] f_trial_Plan_r13) .ret))))))))))⟩

theorem e_trial_Plan_r0 : type_of% f_trial_Plan_r0.eq_1 := by_rfl f_trial_Plan_r0.eq_1
theorem e_trial_Plan_r1 : type_of% f_trial_Plan_r1.eq_1 := by_rfl f_trial_Plan_r1.eq_1
theorem e_trial_Plan_r2 : type_of% f_trial_Plan_r2.eq_1 := by_rfl f_trial_Plan_r2.eq_1
theorem e_trial_Plan_r3 : type_of% f_trial_Plan_r3.eq_1 := by_rfl f_trial_Plan_r3.eq_1
theorem e_trial_Plan_r4 : type_of% f_trial_Plan_r4.eq_1 := by_rfl f_trial_Plan_r4.eq_1
theorem e_trial_Plan_r5 : type_of% f_trial_Plan_r5.eq_1 := by_rfl f_trial_Plan_r5.eq_1
theorem e_trial_Plan_r6 : type_of% f_trial_Plan_r6.eq_1 := by_rfl f_trial_Plan_r6.eq_1
theorem e_trial_Plan_r7 : type_of% f_trial_Plan_r7.eq_1 := by_rfl f_trial_Plan_r7.eq_1
theorem e_trial_Plan_r8 : type_of% f_trial_Plan_r8.eq_1 := by_rfl f_trial_Plan_r8.eq_1
theorem e_trial_Plan_r9 : type_of% f_trial_Plan_r9.eq_1 := by_rfl f_trial_Plan_r9.eq_1
theorem e_trial_Plan_r10 : type_of% f_trial_Plan_r10.eq_1 := by_rfl f_trial_Plan_r10.eq_1
theorem e_trial_Plan_r11 : type_of% f_trial_Plan_r11.eq_1 := by_rfl f_trial_Plan_r11.eq_1
theorem e_trial_Plan_l12 : type_of% f_trial_Plan_l12.eq_1 := by_rfl f_trial_Plan_l12.eq_1
theorem e_trial_Plan_r13 : type_of% f_trial_Plan_r13.eq_1 := by_rfl f_trial_Plan_r13.eq_1
theorem e_trial_Plan : type_of% f_trial_Plan.eq_1 := by_rfl f_trial_Plan.eq_1
theorem ok_trial_Plan : fnC Try.prog a_trial_Plan Try.f36 = some f_trial_Plan := by kernel_rfl

/-! 37 fumarole/fumarolelaw04.ints -/
def f_law04_ints_r0 : List Abs.Op := [
  ⟨some 4, none, false, .mv (.c (.bool false))⟩]

def f_law04_ints_r1 : List Abs.Op := [
  ⟨some 6, none, false, .mv (.t 0)⟩,
  ⟨some 7, none, false, .lenS (.t 6)⟩,
  ⟨some 8, none, false, .mv (.t 1)⟩,
  ⟨some 9, none, false, .lenS (.t 8)⟩,
  ⟨some 10, none, false, .bin .neq (.t 7) (.t 9)⟩]

def f_law04_ints_r2 : List Abs.Op := [
  ⟨some 4, none, false, .mv (.c (.bool false))⟩]

def f_law04_ints_r3 : List Abs.Op := [
  ⟨some 5, none, false, .mv (.c (.int .i64 0))⟩]

def f_law04_ints_r4 : List Abs.Op := [
  ⟨some 11, none, false, .mv (.t 5)⟩,
  ⟨some 12, none, false, .mv (.t 0)⟩,
  ⟨some 13, none, false, .lenS (.t 12)⟩,
  ⟨some 14, none, false, .bin .lss (.t 11) (.t 13)⟩]

def f_law04_ints_r5 : List Abs.Op := [
  ⟨some 17, none, true, .mv (.t 0)⟩,
  ⟨some 18, none, true, .mv (.t 5)⟩,
  ⟨some 19, none, true, .idxS 1 (.t 17) (.t 18)⟩,
  ⟨some 20, none, true, .ld false 1 (.t 19)⟩,
  ⟨some 21, none, true, .mv (.t 1)⟩,
  ⟨some 22, none, true, .mv (.t 5)⟩,
  ⟨some 23, none, true, .idxS 1 (.t 21) (.t 22)⟩,
  ⟨some 24, none, true, .ld false 1 (.t 23)⟩,
  ⟨some 25, none, false, .bin .neq (.t 20) (.t 24)⟩]

def f_law04_ints_r6 : List Abs.Op := [
  ⟨some 4, none, false, .mv (.c (.bool false))⟩]

def f_law04_ints_r7 : List Abs.Op := [
  ⟨some 15, none, false, .mv (.t 5)⟩,
  ⟨some 16, none, false, .bin .add (.t 15) (.c (.int .i64 1))⟩,
  ⟨some 5, none, false, .mv (.t 16)⟩]

def f_law04_ints_l8 : Abs.Cmd :=
  (.seq (.seq (.reg [0, 1, 5, 14] f_law04_ints_r4) (.ite (.t 14) .nop (.exit 0))) (.seq (.blk 1 (.seq (.reg [0, 1, 5, 25] f_law04_ints_r5) (.ite (.t 25) (.seq (.reg [4] f_law04_ints_r6) .ret) .nop))) (.reg [0, 1, 5] f_law04_ints_r7)))

def f_law04_ints_r9 : List Abs.Op := [
  ⟨some 4, none, false, .mv (.c (.bool true))⟩]

def a_law04_ints : Ann := ⟨[(8, [4]), (5, [0, 1, 5]), (7, [4]), (6, [0, 1, 5, 25]), (4, [0, 1, 5, 14]), (3, [0, 1, 5]), (2, [4]), (1, [0, 1, 10]), (0, [0, 1])], [(0, [0, 1, 5])], [], [], [], [], [], [], [], []⟩
def f_law04_ints : Abs.Fn := ⟨2, [.t 4],
  (.seq (.reg [0, 1] f_law04_ints_r0) (.seq (.seq (.reg [0, 1, 10] f_law04_ints_r1) (.ite (.t 10) (.seq (.reg [4] f_law04_ints_r2) .ret) .nop)) (.seq (.seq (.reg [0, 1, 5] f_law04_ints_r3) (.blk 0 (.loop [0, 1, 5] false f_law04_ints_l8))) (.seq (.reg [4] f_law04_ints_r9) .ret))))⟩

theorem e_law04_ints_r0 : type_of% f_law04_ints_r0.eq_1 := by_rfl f_law04_ints_r0.eq_1
theorem e_law04_ints_r1 : type_of% f_law04_ints_r1.eq_1 := by_rfl f_law04_ints_r1.eq_1
theorem e_law04_ints_r2 : type_of% f_law04_ints_r2.eq_1 := by_rfl f_law04_ints_r2.eq_1
theorem e_law04_ints_r3 : type_of% f_law04_ints_r3.eq_1 := by_rfl f_law04_ints_r3.eq_1
theorem e_law04_ints_r4 : type_of% f_law04_ints_r4.eq_1 := by_rfl f_law04_ints_r4.eq_1
theorem e_law04_ints_r5 : type_of% f_law04_ints_r5.eq_1 := by_rfl f_law04_ints_r5.eq_1
theorem e_law04_ints_r6 : type_of% f_law04_ints_r6.eq_1 := by_rfl f_law04_ints_r6.eq_1
theorem e_law04_ints_r7 : type_of% f_law04_ints_r7.eq_1 := by_rfl f_law04_ints_r7.eq_1
theorem e_law04_ints_l8 : type_of% f_law04_ints_l8.eq_1 := by_rfl f_law04_ints_l8.eq_1
theorem e_law04_ints_r9 : type_of% f_law04_ints_r9.eq_1 := by_rfl f_law04_ints_r9.eq_1
theorem e_law04_ints : type_of% f_law04_ints.eq_1 := by_rfl f_law04_ints.eq_1
theorem ok_law04_ints : fnC Try.prog a_law04_ints Try.f37 = some f_law04_ints := by kernel_rfl

/-! 48 fumarole/trial.Fits -/
def f_trial_Fits_r0 : List Abs.Op := [
  ⟨some 2, none, false, .boxi (.t 0)⟩,
  ⟨some 4, none, false, .mv (.c (.bool false))⟩]

def f_trial_Fits_r1 : List Abs.Op := [
  ⟨some 5, none, false, .ld true 3 (.t 2)⟩,
  ⟨some 6, none, false, .call false (.c (.fn i_trial_CheckSurvey [] [])) [(.t 5)]⟩,
  ⟨some 7, none, false, .bin .eql (.t 6) (.c (.int .i64 0))⟩,
  ⟨some 8, none, false, .mv (.t 7)⟩,
  ⟨some 9, some (8, true), false, .mv (.t 1)⟩,
  ⟨some 10, some (8, true), false, .lenS (.t 9)⟩,
  ⟨some 11, some (8, true), false, .fadr 0 (.t 2)⟩,
  ⟨some 12, some (8, true), false, .ld false 1 (.t 11)⟩,
  ⟨some 13, some (8, true), false, .bin .eql (.t 10) (.t 12)⟩,
  ⟨some 14, none, false, .pick (.t 8) (.t 13) (.c (.bool false))⟩,
  ⟨some 15, none, false, .mv (.t 14)⟩,
  ⟨some 16, some (15, true), false, .ld true 3 (.t 2)⟩,
  ⟨some 17, some (15, true), false, .mv (.t 1)⟩,
  ⟨some 18, some (15, true), false, .call false (.c (.fn i_trial_Survey_fits [] [])) [(.t 16), (.t 17)]⟩,
  ⟨some 19, none, false, .pick (.t 15) (.t 18) (.c (.bool false))⟩,
  ⟨some 4, none, false, .mv (.t 19)⟩]

def a_trial_Fits : Ann := ⟨[(1, [4]), (0, [1, 2])], [], [], [], [], [], [], [], [], []⟩
def f_trial_Fits : Abs.Fn := ⟨2, [.t 4],
  (.seq (.reg [1, 2] f_trial_Fits_r0) (.seq (.reg [4] f_trial_Fits_r1) .ret))⟩

theorem e_trial_Fits_r0 : type_of% f_trial_Fits_r0.eq_1 := by_rfl f_trial_Fits_r0.eq_1
theorem e_trial_Fits_r1 : type_of% f_trial_Fits_r1.eq_1 := by_rfl f_trial_Fits_r1.eq_1
theorem e_trial_Fits : type_of% f_trial_Fits.eq_1 := by_rfl f_trial_Fits.eq_1
theorem ok_trial_Fits : fnC Try.prog a_trial_Fits Try.f48 = some f_trial_Fits := by kernel_rfl

/-! 57 fumarole/trial.Groups -/
def f_trial_Groups_r0 : List Abs.Op := [
  ⟨some 1, none, false, .boxi (.t 0)⟩,
  ⟨some 2, none, false, .mv (.c .nils)⟩,
  ⟨some 3, none, false, .mv (.c (.int .i64 0))⟩]

def f_trial_Groups_r1 : List Abs.Op := [
  ⟨some 6, none, false, .ld true 3 (.t 1)⟩,
  ⟨some 7, none, false, .call false (.c (.fn i_trial_CheckSurvey [] [])) [(.t 6)]⟩,
  ⟨some 4, none, false, .mv (.t 7)⟩]

def f_trial_Groups_r2 : List Abs.Op := [
  ⟨some 8, none, false, .mv (.t 4)⟩,
  ⟨some 9, none, false, .bin .neq (.t 8) (.c (.int .i64 0))⟩]

def f_trial_Groups_r3 : List Abs.Op := [
  ⟨some 10, none, false, .mv (.t 4)⟩,
  ⟨some 2, none, false, .mv (.c .nils)⟩,
  ⟨some 3, none, false, .mv (.t 10)⟩]

def f_trial_Groups_r4 : List Abs.Op := [
  ⟨some 11, none, false, .ld true 3 (.t 1)⟩,
  ⟨some 12, none, false, .call false (.c (.fn i_trial_Survey_groups [] [])) [(.t 11)]⟩,
  ⟨some 5, none, false, .alc [] [(.int .i64 0), (.int .i64 0), .nils, (.int .i64 0), (.int .i64 0), (.int .i64 0), (.int .i64 0), (.int .i64 0), (.int .i64 0), (.int .i64 0), (.int .i64 0), (.int .i64 0), (.int .i64 0)]⟩,
  ⟨none, none, false, .st [] 13 (.t 5) (.t 12)⟩]

def f_trial_Groups_r5 : List Abs.Op := [
  ⟨some 13, none, false, .fadr 3 (.t 5)⟩,
  ⟨some 14, none, false, .fadr 0 (.t 1)⟩,
  ⟨some 15, none, false, .ld false 1 (.t 14)⟩,
  ⟨some 16, none, false, .slca 10 1 (.t 13) none (some (.t 15))⟩,
  ⟨some 17, none, false, .call false (.c (.fn i_slices_Clone_int [] [])) [(.t 16)]⟩,
  ⟨some 2, none, false, .mv (.t 17)⟩,
  ⟨some 3, none, false, .mv (.c (.int .i64 0))⟩]

def a_trial_Groups : Ann := ⟨[(5, [2, 3]), (4, [1, 5]), (3, [2, 3]), (2, [1, 4, 9]), (1, [1, 4]), (0, [1])], [], [], [5], [], [], [], [], [], []⟩
def f_trial_Groups : Abs.Fn := ⟨1, [.t 2, .t 3],
  (.seq (.reg [1] f_trial_Groups_r0) (.seq (.seq (.reg [1, 4] f_trial_Groups_r1) (.seq (.reg [1, 4, 9] f_trial_Groups_r2) (.ite (.t 9) (.seq (.reg [2, 3] f_trial_Groups_r3) .ret) .nop))) (.seq (.reg [1, 5] f_trial_Groups_r4) (.seq (.reg [2, 3] f_trial_Groups_r5) .ret))))⟩

theorem e_trial_Groups_r0 : type_of% f_trial_Groups_r0.eq_1 := by_rfl f_trial_Groups_r0.eq_1
theorem e_trial_Groups_r1 : type_of% f_trial_Groups_r1.eq_1 := by_rfl f_trial_Groups_r1.eq_1
theorem e_trial_Groups_r2 : type_of% f_trial_Groups_r2.eq_1 := by_rfl f_trial_Groups_r2.eq_1
theorem e_trial_Groups_r3 : type_of% f_trial_Groups_r3.eq_1 := by_rfl f_trial_Groups_r3.eq_1
theorem e_trial_Groups_r4 : type_of% f_trial_Groups_r4.eq_1 := by_rfl f_trial_Groups_r4.eq_1
theorem e_trial_Groups_r5 : type_of% f_trial_Groups_r5.eq_1 := by_rfl f_trial_Groups_r5.eq_1
theorem e_trial_Groups : type_of% f_trial_Groups.eq_1 := by_rfl f_trial_Groups.eq_1
theorem ok_trial_Groups : fnC Try.prog a_trial_Groups Try.f57 = some f_trial_Groups := by kernel_rfl

/-! 58 fumarole/fumarolelaw04.divided -/
def f_law04_divided_r0 : List Abs.Op := [
  ⟨some 4, none, false, .mv (.c .nils)⟩]

def f_law04_divided_r1 : List Abs.Op := [
  ⟨some 5, none, false, .nilb 1⟩]

def f_law04_divided_r2 : List Abs.Op := [
  ⟨some 6, none, false, .mv (.c (.int .i64 0))⟩]

def f_law04_divided_r3 : List Abs.Op := [
  ⟨some 7, none, false, .mv (.t 6)⟩,
  ⟨some 8, none, false, .mv (.t 0)⟩,
  ⟨some 9, none, false, .bin .lss (.t 7) (.t 8)⟩]

def f_law04_divided_r4 : List Abs.Op := [
  ⟨some 12, none, false, .mv (.t 5)⟩,
  ⟨some 13, none, false, .mv (.t 1)⟩,
  ⟨some 14, none, false, .bin .rem (.t 13) (.c (.int .u64 4))⟩,
  ⟨some 15, none, false, .cvt .i64 (.t 14)⟩,
  ⟨some 16, none, false, .bsi 1 1 [(.int .i64 0)] [(0, 1, (.t 15))]⟩,
  ⟨some 17, none, false, .app 1 8 (.t 12) (.t 16)⟩,
  ⟨some 5, none, false, .mv (.t 17)⟩]

def f_law04_divided_r5 : List Abs.Op := [
  ⟨some 18, none, false, .mv (.t 1)⟩,
  ⟨some 19, none, false, .bin .quo (.t 18) (.c (.int .u64 4))⟩,
  ⟨some 1, none, false, .mv (.t 19)⟩]

def f_law04_divided_r6 : List Abs.Op := [
  ⟨some 10, none, false, .mv (.t 6)⟩,
  ⟨some 11, none, false, .bin .add (.t 10) (.c (.int .i64 1))⟩,
  ⟨some 6, none, false, .mv (.t 11)⟩]

def f_law04_divided_l7 : Abs.Cmd :=
  (.seq (.seq (.reg [0, 1, 5, 6, 9] f_law04_divided_r3) (.ite (.t 9) .nop (.exit 0))) (.seq (.blk 1 (.seq (.reg [0, 1, 5, 6] f_law04_divided_r4) (.reg [0, 1, 5, 6] f_law04_divided_r5))) (.reg [0, 1, 5, 6] f_law04_divided_r6)))

def f_law04_divided_r8 : List Abs.Op := [
  ⟨some 20, none, false, .mv (.t 5)⟩,
  ⟨some 4, none, false, .mv (.t 20)⟩]

def a_law04_divided : Ann := ⟨[(7, [4]), (4, [0, 1, 5, 6]), (6, [0, 1, 5, 6]), (5, [0, 1, 5, 6]), (3, [0, 1, 5, 6, 9]), (2, [0, 1, 5, 6]), (1, [0, 1, 5]), (0, [0, 1])], [(0, [0, 1, 5, 6])], [], [5], [], [], [], [], [], []⟩
def f_law04_divided : Abs.Fn := ⟨2, [.t 4],
  (.seq (.reg [0, 1] f_law04_divided_r0) (.seq (.reg [0, 1, 5] f_law04_divided_r1) (.seq (.seq (.reg [0, 1, 5, 6] f_law04_divided_r2) (.blk 0 (.loop [0, 1, 5, 6] false f_law04_divided_l7))) (.seq (.reg [4] f_law04_divided_r8) .ret))))⟩

theorem e_law04_divided_r0 : type_of% f_law04_divided_r0.eq_1 := by_rfl f_law04_divided_r0.eq_1
theorem e_law04_divided_r1 : type_of% f_law04_divided_r1.eq_1 := by_rfl f_law04_divided_r1.eq_1
theorem e_law04_divided_r2 : type_of% f_law04_divided_r2.eq_1 := by_rfl f_law04_divided_r2.eq_1
theorem e_law04_divided_r3 : type_of% f_law04_divided_r3.eq_1 := by_rfl f_law04_divided_r3.eq_1
theorem e_law04_divided_r4 : type_of% f_law04_divided_r4.eq_1 := by_rfl f_law04_divided_r4.eq_1
theorem e_law04_divided_r5 : type_of% f_law04_divided_r5.eq_1 := by_rfl f_law04_divided_r5.eq_1
theorem e_law04_divided_r6 : type_of% f_law04_divided_r6.eq_1 := by_rfl f_law04_divided_r6.eq_1
theorem e_law04_divided_l7 : type_of% f_law04_divided_l7.eq_1 := by_rfl f_law04_divided_l7.eq_1
theorem e_law04_divided_r8 : type_of% f_law04_divided_r8.eq_1 := by_rfl f_law04_divided_r8.eq_1
theorem e_law04_divided : type_of% f_law04_divided.eq_1 := by_rfl f_law04_divided.eq_1
theorem ok_law04_divided : fnC Try.prog a_law04_divided Try.f58 = some f_law04_divided := by kernel_rfl

/-! 60 fumarole/trial.Clash -/
def f_trial_Clash_r0 : List Abs.Op := [
  ⟨some 1, none, false, .boxi (.t 0)⟩,
  ⟨some 2, none, false, .mv (.c (.int .i64 0))⟩,
  ⟨some 3, none, false, .mv (.c .nils)⟩,
  ⟨some 4, none, false, .mv (.c (.int .i64 0))⟩]

def f_trial_Clash_r1 : List Abs.Op := [
  ⟨some 7, none, false, .ld true 3 (.t 1)⟩,
  ⟨some 8, none, false, .call false (.c (.fn i_trial_CheckSurvey [] [])) [(.t 7)]⟩,
  ⟨some 5, none, false, .mv (.t 8)⟩]

def f_trial_Clash_r2 : List Abs.Op := [
  ⟨some 9, none, false, .mv (.t 5)⟩,
  ⟨some 10, none, false, .bin .neq (.t 9) (.c (.int .i64 0))⟩]

def f_trial_Clash_r3 : List Abs.Op := [
  ⟨some 11, none, false, .mv (.t 5)⟩,
  ⟨some 2, none, false, .mv (.c (.int .i64 0))⟩,
  ⟨some 3, none, false, .mv (.c .nils)⟩,
  ⟨some 4, none, false, .mv (.t 11)⟩]

def f_trial_Clash_r4 : List Abs.Op := [
  ⟨some 12, none, false, .ld true 3 (.t 1)⟩,
  ⟨some 13, none, false, .call false (.c (.fn i_trial_Survey_groups [] [])) [(.t 12)]⟩,
  ⟨some 14, none, false, .call false (.c (.fn i_trial_parted_clash [] [])) [(.t 13)]⟩,
  ⟨some 6, none, false, .mv (.t 14)⟩]

def f_trial_Clash_r5 : List Abs.Op := [
  ⟨some 15, none, false, .mv (.t 6)⟩,
  ⟨some 16, none, false, .bin .lss (.t 15) (.c (.int .i64 0))⟩]

def f_trial_Clash_r6 : List Abs.Op := [
  ⟨some 2, none, false, .mv (.c (.int .i64 0))⟩,
  ⟨some 3, none, false, .mv (.c .nils)⟩,
  ⟨some 4, none, false, .mv (.c (.int .i64 7))⟩]

def f_trial_Clash_r7 : List Abs.Op := [
  ⟨some 17, none, true, .mv (.t 6)⟩,
  ⟨some 18, none, true, .ld true 3 (.t 1)⟩,
  ⟨some 19, none, true, .fadr 2 (.t 1)⟩,
  ⟨some 20, none, true, .ld false 1 (.t 19)⟩,
  ⟨some 21, none, true, .mv (.t 6)⟩,
  ⟨some 22, none, true, .idxS 4 (.t 20) (.t 21)⟩,
  ⟨some 23, none, true, .fadr 0 (.t 22)⟩,
  ⟨some 24, none, true, .ld false 1 (.t 23)⟩,
  ⟨some 25, none, true, .fadr 2 (.t 1)⟩,
  ⟨some 26, none, true, .ld false 1 (.t 25)⟩,
  ⟨some 27, none, true, .mv (.t 6)⟩,
  ⟨some 28, none, true, .idxS 4 (.t 26) (.t 27)⟩,
  ⟨some 29, none, true, .fadr 1 (.t 28)⟩,
  ⟨some 30, none, true, .ld false 1 (.t 29)⟩,
  ⟨some 31, none, true, .call false (.c (.fn i_trial_Survey_way [] [])) [(.t 18), (.t 24), (.t 30)]⟩,
  ⟨some 2, none, false, .mv (.t 17)⟩,
  ⟨some 3, none, false, .mv (.t 31)⟩,
  ⟨some 4, none, false, .mv (.c (.int .i64 0))⟩]

def a_trial_Clash : Ann := ⟨[(7, [2, 3, 4]), (6, [2, 3, 4]), (5, [1, 6, 16]), (4, [1, 6]), (3, [2, 3, 4]), (2, [1, 5, 10]), (1, [1, 5]), (0, [1])], [], [], [], [], [], [], [], [], []⟩
def f_trial_Clash : Abs.Fn := ⟨1, [.t 2, .t 3, .t 4],
  (.seq (.reg [1] f_trial_Clash_r0) (.seq (.seq (.reg [1, 5] f_trial_Clash_r1) (.seq (.reg [1, 5, 10] f_trial_Clash_r2) (.ite (.t 10) (.seq (.reg [2, 3, 4] f_trial_Clash_r3) .ret) .nop))) (.seq (.reg [1, 6] f_trial_Clash_r4) (.seq (.seq (.reg [1, 6, 16] f_trial_Clash_r5) (.ite (.t 16) (.seq (.reg [2, 3, 4] f_trial_Clash_r6) .ret) .nop)) (.seq (.reg [2, 3, 4] f_trial_Clash_r7) .ret)))))⟩

theorem e_trial_Clash_r0 : type_of% f_trial_Clash_r0.eq_1 := by_rfl f_trial_Clash_r0.eq_1
theorem e_trial_Clash_r1 : type_of% f_trial_Clash_r1.eq_1 := by_rfl f_trial_Clash_r1.eq_1
theorem e_trial_Clash_r2 : type_of% f_trial_Clash_r2.eq_1 := by_rfl f_trial_Clash_r2.eq_1
theorem e_trial_Clash_r3 : type_of% f_trial_Clash_r3.eq_1 := by_rfl f_trial_Clash_r3.eq_1
theorem e_trial_Clash_r4 : type_of% f_trial_Clash_r4.eq_1 := by_rfl f_trial_Clash_r4.eq_1
theorem e_trial_Clash_r5 : type_of% f_trial_Clash_r5.eq_1 := by_rfl f_trial_Clash_r5.eq_1
theorem e_trial_Clash_r6 : type_of% f_trial_Clash_r6.eq_1 := by_rfl f_trial_Clash_r6.eq_1
theorem e_trial_Clash_r7 : type_of% f_trial_Clash_r7.eq_1 := by_rfl f_trial_Clash_r7.eq_1
theorem e_trial_Clash : type_of% f_trial_Clash.eq_1 := by_rfl f_trial_Clash.eq_1
theorem ok_trial_Clash : fnC Try.prog a_trial_Clash Try.f60 = some f_trial_Clash := by kernel_rfl

end Go.Proofs.Ytcjjdaifpboaaaa
