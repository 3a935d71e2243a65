/- The code of functions of the program, in the small instruction set; each is what the translation makes of it. -/
import Derived.Test.YtcjjdaifpboaaaaIds
set_option linter.unusedVariables false
set_option maxRecDepth 100000
namespace Go.Proofs.Ytcjjdaifpboaaaa
open Go Go.Abs
/-! 5 fumarole/fumarolelaw04.TrialRelations -/
def f_law04_TrialRelations_r0 : List Abs.Op := [
  ⟨some 1, none, false, .boxi (.t 0)⟩,
  ⟨some 2, none, false, .mv (.c (.bool false))⟩]

def f_law04_TrialRelations_r1 : List Abs.Op := [
  ⟨some 10, none, false, .fadr 2 (.t 1)⟩,
  ⟨some 11, none, false, .ld false 1 (.t 10)⟩,
  ⟨some 12, none, false, .lenS (.t 11)⟩,
  ⟨some 13, none, false, .bin .gtr (.t 12) (.c (.int .i64 70))⟩]

def f_law04_TrialRelations_r2 : List Abs.Op := [
  ⟨some 14, none, false, .call false (.c (.fn i_law04_wakes [] [])) []⟩,
  ⟨some 2, none, false, .mv (.t 14)⟩]

def f_law04_TrialRelations_r3 : List Abs.Op := [
  ⟨some 15, none, false, .ld true 3 (.t 1)⟩,
  ⟨some 16, none, false, .call false (.c (.fn i_ref04_SurveyFault [] [])) [(.t 15)]⟩,
  ⟨some 3, none, false, .mv (.t 16)⟩]

def f_law04_TrialRelations_r4 : List Abs.Op := [
  ⟨some 17, none, false, .mv (.t 3)⟩,
  ⟨some 18, none, false, .bin .eql (.t 17) (.c (.int .i64 0))⟩,
  ⟨some 19, none, false, .mv (.t 18)⟩,
  ⟨some 20, some (19, true), false, .ld true 3 (.t 1)⟩,
  ⟨some 21, some (19, true), false, .call false (.c (.fn i_ref04_Clash [] [])) [(.t 20)]⟩,
  ⟨some 22, some (19, true), false, .bin .geq (.t 21) (.c (.int .i64 0))⟩,
  ⟨some 23, none, false, .pick (.t 19) (.t 22) (.c (.bool false))⟩]

def f_law04_TrialRelations_r5 : List Abs.Op := [
  ⟨some 3, none, false, .mv (.c (.int .i64 9))⟩]

def f_law04_TrialRelations_r6 : List Abs.Op := [
  ⟨some 25, none, false, .ld true 3 (.t 1)⟩,
  ⟨some 26, none, false, .call false (.c (.fn i_law04_Survey [] [])) [(.t 25)]⟩,
  ⟨some 27, none, false, .call false (.c (.fn i_trial_Relations [] [])) [(.t 26)]⟩,
  ⟨some 24, none, false, .mv (.t 27)⟩,
  ⟨some 28, none, false, .ext (.t 24) 0⟩,
  ⟨some 29, none, false, .ext (.t 24) 1⟩,
  ⟨some 4, none, false, .mv (.t 28)⟩,
  ⟨some 5, none, false, .mv (.t 29)⟩]

def f_law04_TrialRelations_r7 : List Abs.Op := [
  ⟨some 31, none, false, .ld true 3 (.t 1)⟩,
  ⟨some 32, none, false, .call false (.c (.fn i_law04_Survey [] [])) [(.t 31)]⟩,
  ⟨some 33, none, false, .call false (.c (.fn i_trial_Plan [] [])) [(.t 32)]⟩,
  ⟨some 30, none, false, .mv (.t 33)⟩,
  ⟨some 34, none, false, .ext (.t 30) 0⟩,
  ⟨some 35, none, false, .ext (.t 30) 1⟩,
  ⟨some 6, none, false, .mv (.t 34)⟩,
  ⟨some 7, none, false, .mv (.t 35)⟩]

def f_law04_TrialRelations_r8 : List Abs.Op := [
  ⟨some 36, none, false, .mv (.t 3)⟩,
  ⟨some 37, none, false, .bin .neq (.t 36) (.c (.int .i64 0))⟩]

def f_law04_TrialRelations_r9 : List Abs.Op := [
  ⟨some 38, none, false, .mv (.t 5)⟩,
  ⟨some 39, none, false, .mv (.t 3)⟩,
  ⟨some 40, none, false, .bin .eql (.t 38) (.t 39)⟩,
  ⟨some 41, none, false, .mv (.t 40)⟩,
  ⟨some 42, some (41, true), false, .mv (.t 7)⟩,
  ⟨some 43, some (41, true), false, .mv (.t 3)⟩,
  ⟨some 44, some (41, true), false, .bin .eql (.t 42) (.t 43)⟩,
  ⟨some 45, none, false, .pick (.t 41) (.t 44) (.c (.bool false))⟩,
  ⟨some 46, none, false, .mv (.t 45)⟩,
  ⟨some 47, some (46, true), false, .mv (.t 4)⟩,
  ⟨some 48, some (46, true), false, .lenS (.t 47)⟩,
  ⟨some 49, some (46, true), false, .mv (.t 6)⟩,
  ⟨some 50, some (46, true), false, .lenS (.t 49)⟩,
  ⟨some 51, some (46, true), false, .bin .add (.t 48) (.t 50)⟩,
  ⟨some 52, some (46, true), false, .bin .eql (.t 51) (.c (.int .i64 0))⟩,
  ⟨some 53, none, false, .pick (.t 46) (.t 52) (.c (.bool false))⟩,
  ⟨some 54, none, false, .mv (.t 53)⟩,
  ⟨some 55, some (54, true), false, .call false (.c (.fn i_law04_wakes [] [])) []⟩,
  ⟨some 56, none, false, .pick (.t 54) (.t 55) (.c (.bool false))⟩,
  ⟨some 2, none, false, .mv (.t 56)⟩]

def f_law04_TrialRelations_r10 : List Abs.Op := [
  ⟨some 57, none, false, .mv (.t 5)⟩,
  ⟨some 58, none, false, .bin .neq (.t 57) (.c (.int .i64 0))⟩,
  ⟨some 59, none, false, .mv (.t 58)⟩,
  ⟨some 60, some (59, false), false, .mv (.t 7)⟩,
  ⟨some 61, some (59, false), false, .bin .neq (.t 60) (.c (.int .i64 0))⟩,
  ⟨some 62, none, false, .pick (.t 59) (.c (.bool true)) (.t 61)⟩,
  ⟨some 63, none, false, .mv (.t 62)⟩,
  ⟨some 64, some (63, false), false, .mv (.t 4)⟩,
  ⟨some 65, some (63, false), false, .lenS (.t 64)⟩,
  ⟨some 66, some (63, false), false, .fadr 0 (.t 1)⟩,
  ⟨some 67, some (63, false), false, .ld false 1 (.t 66)⟩,
  ⟨some 68, some (63, false), false, .bin .neq (.t 65) (.t 67)⟩,
  ⟨some 69, none, false, .pick (.t 63) (.c (.bool true)) (.t 68)⟩,
  ⟨some 70, none, false, .mv (.t 69)⟩,
  ⟨some 71, some (70, false), false, .mv (.t 6)⟩,
  ⟨some 72, some (70, false), false, .ld true 3 (.t 1)⟩,
  ⟨some 73, some (70, false), false, .call false (.c (.fn i_ref04_Plan [] [])) [(.t 72)]⟩,
  ⟨some 74, some (70, false), false, .call false (.c (.fn i_law04_ints [] [])) [(.t 71), (.t 73)]⟩,
  ⟨some 75, some (70, false), false, .un .not (.t 74)⟩,
  ⟨some 76, none, false, .pick (.t 70) (.c (.bool true)) (.t 75)⟩]

def f_law04_TrialRelations_r11 : List Abs.Op := [
  ⟨some 2, none, false, .mv (.c (.bool false))⟩]

def f_law04_TrialRelations_r12 : List Abs.Op := [
  ⟨some 8, none, false, .mv (.c (.int .i64 0))⟩]

def f_law04_TrialRelations_r13 : List Abs.Op := [
  ⟨some 77, none, false, .mv (.t 8)⟩,
  ⟨some 78, none, false, .fadr 0 (.t 1)⟩,
  ⟨some 79, none, false, .ld false 1 (.t 78)⟩,
  ⟨some 80, none, false, .bin .lss (.t 77) (.t 79)⟩]

def f_law04_TrialRelations_r14 : List Abs.Op := [
  ⟨some 83, none, true, .mv (.t 4)⟩,
  ⟨some 84, none, true, .mv (.t 8)⟩,
  ⟨some 85, none, true, .idxS 1 (.t 83) (.t 84)⟩,
  ⟨some 86, none, true, .ld false 1 (.t 85)⟩,
  ⟨some 87, none, true, .lenS (.t 86)⟩,
  ⟨some 88, none, true, .fadr 0 (.t 1)⟩,
  ⟨some 89, none, true, .ld false 1 (.t 88)⟩,
  ⟨some 90, none, false, .bin .neq (.t 87) (.t 89)⟩]

def f_law04_TrialRelations_r15 : List Abs.Op := [
  ⟨some 2, none, false, .mv (.c (.bool false))⟩]

def f_law04_TrialRelations_r16 : List Abs.Op := [
  ⟨some 9, none, false, .mv (.c (.int .i64 0))⟩]

def f_law04_TrialRelations_r17 : List Abs.Op := [
  ⟨some 91, none, false, .mv (.t 9)⟩,
  ⟨some 92, none, false, .fadr 0 (.t 1)⟩,
  ⟨some 93, none, false, .ld false 1 (.t 92)⟩,
  ⟨some 94, none, false, .bin .lss (.t 91) (.t 93)⟩]

def f_law04_TrialRelations_r18 : List Abs.Op := [
  ⟨some 97, none, true, .mv (.t 4)⟩,
  ⟨some 98, none, true, .mv (.t 8)⟩,
  ⟨some 99, none, true, .idxS 1 (.t 97) (.t 98)⟩,
  ⟨some 100, none, true, .ld false 1 (.t 99)⟩,
  ⟨some 101, none, true, .mv (.t 9)⟩,
  ⟨some 102, none, true, .idxS 1 (.t 100) (.t 101)⟩,
  ⟨some 103, none, true, .ld false 1 (.t 102)⟩,
  ⟨some 104, none, true, .ld true 3 (.t 1)⟩,
  ⟨some 105, none, true, .mv (.t 8)⟩,
  ⟨some 106, none, true, .mv (.t 9)⟩,
  ⟨some 107, none, true, .call false (.c (.fn i_ref04_Relation [] [])) [(.t 104), (.t 105), (.t 106)]⟩,
  ⟨some 108, none, false, .bin .neq (.t 103) (.t 107)⟩]

def f_law04_TrialRelations_r19 : List Abs.Op := [
  ⟨some 2, none, false, .mv (.c (.bool false))⟩]

def f_law04_TrialRelations_r20 : List Abs.Op := [
  ⟨some 95, none, false, .mv (.t 9)⟩,
  ⟨some 96, none, false, .bin .add (.t 95) (.c (.int .i64 1))⟩,
  ⟨some 9, none, false, .mv (.t 96)⟩]

def f_law04_TrialRelations_l21 : Abs.Cmd :=
  (.seq (.seq (.reg [1, 4, 8, 9, 94] f_law04_TrialRelations_r17) (.ite (.t 94) .nop (.exit 2))) (.seq (.blk 3 (.seq (.reg [1, 4, 8, 9, 108] f_law04_TrialRelations_r18) (.ite (.t 108) (.seq (.reg [2] f_law04_TrialRelations_r19) .ret) .nop))) (.reg [1, 4, 8, 9] f_law04_TrialRelations_r20)))

def f_law04_TrialRelations_r22 : List Abs.Op := [
  ⟨some 81, none, false, .mv (.t 8)⟩,
  ⟨some 82, none, false, .bin .add (.t 81) (.c (.int .i64 1))⟩,
  ⟨some 8, none, false, .mv (.t 82)⟩]

def f_law04_TrialRelations_l23 : Abs.Cmd :=
  (.seq (.seq (.reg [1, 4, 8, 80] f_law04_TrialRelations_r13) (.ite (.t 80) .nop (.exit 0))) (.seq (.blk 1 (.seq (.seq (.reg [1, 4, 8, 90] f_law04_TrialRelations_r14) (.ite (.t 90) (.seq (.reg [2] f_law04_TrialRelations_r15) .ret) .nop)) (.seq (.reg [1, 4, 8, 9] f_law04_TrialRelations_r16) (.blk 2 (.loop [1, 4, 8, 9] false f_law04_TrialRelations_l21))))) (.reg [1, 4, 8] f_law04_TrialRelations_r22)))

def f_law04_TrialRelations_r24 : List Abs.Op := [
  ⟨some 109, none, false, .call false (.c (.fn i_law04_wakes [] [])) []⟩,
  ⟨some 2, none, false, .mv (.t 109)⟩]

def a_law04_TrialRelations : Ann := ⟨[(22, [2]), (14, [1, 4, 8]), (19, [1, 4, 8, 9]), (21, [2]), (20, [1, 4, 8, 9, 108]), (18, [1, 4, 8, 9, 94]), (17, [1, 4, 8, 9]), (16, [2]), (15, [1, 4, 8, 90]), (13, [1, 4, 8, 80]), (12, [1, 4, 8]), (11, [2]), (10, [1, 4, 76]), (9, [2]), (8, [1, 3, 4, 5, 6, 7, 37]), (7, [1, 3, 4, 5, 6, 7]), (6, [1, 3, 4, 5]), (5, [1, 3]), (4, [1, 3, 23]), (3, [1, 3]), (2, [2]), (1, [1, 13]), (0, [1])], [(2, [1, 4, 8, 9]), (0, [1, 4, 8])], [], [], [], [], [], [], [], []⟩
def f_law04_TrialRelations : Abs.Fn := ⟨1, [.t 2],
  (.seq (.reg [1] f_law04_TrialRelations_r0) (.seq (.seq (.reg [1, 13] f_law04_TrialRelations_r1) (.ite (.t 13) (.seq (.reg [2] f_law04_TrialRelations_r2) .ret) .nop)) (.seq (.reg [1, 3] f_law04_TrialRelations_r3) (.seq (.seq (.reg [1, 3, 23] f_law04_TrialRelations_r4) (.ite (.t 23) (.reg [1, 3] f_law04_TrialRelations_r5) .nop)) (.seq (.reg [1, 3, 4, 5] f_law04_TrialRelations_r6) (.seq (.reg [1, 3, 4, 5, 6, 7] f_law04_TrialRelations_r7) (.seq (.seq (.reg [1, 3, 4, 5, 6, 7, 37] f_law04_TrialRelations_r8) (.ite (.t 37) (.seq (.reg [2] f_law04_TrialRelations_r9) .ret) .nop)) (.seq (.seq (.reg [1, 4, 76] f_law04_TrialRelations_r10) (.ite (.t 76) (.seq (.reg [2] f_law04_TrialRelations_r11) .ret) .nop)) (.seq (.seq (.reg [1, 4, 8] f_law04_TrialRelations_r12) (.blk 0 (.loop [1, 4, 8] false f_law04_TrialRelations_l23))) (.seq (.reg [2] f_law04_TrialRelations_r24) .ret))))))))))⟩

theorem e_law04_TrialRelations_r0 : type_of% f_law04_TrialRelations_r0.eq_1 := by_rfl f_law04_TrialRelations_r0.eq_1
theorem e_law04_TrialRelations_r1 : type_of% f_law04_TrialRelations_r1.eq_1 := by_rfl f_law04_TrialRelations_r1.eq_1
theorem e_law04_TrialRelations_r2 : type_of% f_law04_TrialRelations_r2.eq_1 := by_rfl f_law04_TrialRelations_r2.eq_1
theorem e_law04_TrialRelations_r3 : type_of% f_law04_TrialRelations_r3.eq_1 := by_rfl f_law04_TrialRelations_r3.eq_1
theorem e_law04_TrialRelations_r4 : type_of% f_law04_TrialRelations_r4.eq_1 := by_rfl f_law04_TrialRelations_r4.eq_1
theorem e_law04_TrialRelations_r5 : type_of% f_law04_TrialRelations_r5.eq_1 := by_rfl f_law04_TrialRelations_r5.eq_1
theorem e_law04_TrialRelations_r6 : type_of% f_law04_TrialRelations_r6.eq_1 := by_rfl f_law04_TrialRelations_r6.eq_1
theorem e_law04_TrialRelations_r7 : type_of% f_law04_TrialRelations_r7.eq_1 := by_rfl f_law04_TrialRelations_r7.eq_1
theorem e_law04_TrialRelations_r8 : type_of% f_law04_TrialRelations_r8.eq_1 := by_rfl f_law04_TrialRelations_r8.eq_1
theorem e_law04_TrialRelations_r9 : type_of% f_law04_TrialRelations_r9.eq_1 := by_rfl f_law04_TrialRelations_r9.eq_1
theorem e_law04_TrialRelations_r10 : type_of% f_law04_TrialRelations_r10.eq_1 := by_rfl f_law04_TrialRelations_r10.eq_1
theorem e_law04_TrialRelations_r11 : type_of% f_law04_TrialRelations_r11.eq_1 := by_rfl f_law04_TrialRelations_r11.eq_1
theorem e_law04_TrialRelations_r12 : type_of% f_law04_TrialRelations_r12.eq_1 := by_rfl f_law04_TrialRelations_r12.eq_1
theorem e_law04_TrialRelations_r13 : type_of% f_law04_TrialRelations_r13.eq_1 := by_rfl f_law04_TrialRelations_r13.eq_1
theorem e_law04_TrialRelations_r14 : type_of% f_law04_TrialRelations_r14.eq_1 := by_rfl f_law04_TrialRelations_r14.eq_1
theorem e_law04_TrialRelations_r15 : type_of% f_law04_TrialRelations_r15.eq_1 := by_rfl f_law04_TrialRelations_r15.eq_1
theorem e_law04_TrialRelations_r16 : type_of% f_law04_TrialRelations_r16.eq_1 := by_rfl f_law04_TrialRelations_r16.eq_1
theorem e_law04_TrialRelations_r17 : type_of% f_law04_TrialRelations_r17.eq_1 := by_rfl f_law04_TrialRelations_r17.eq_1
theorem e_law04_TrialRelations_r18 : type_of% f_law04_TrialRelations_r18.eq_1 := by_rfl f_law04_TrialRelations_r18.eq_1
theorem e_law04_TrialRelations_r19 : type_of% f_law04_TrialRelations_r19.eq_1 := by_rfl f_law04_TrialRelations_r19.eq_1
theorem e_law04_TrialRelations_r20 : type_of% f_law04_TrialRelations_r20.eq_1 := by_rfl f_law04_TrialRelations_r20.eq_1
theorem e_law04_TrialRelations_l21 : type_of% f_law04_TrialRelations_l21.eq_1 := by_rfl f_law04_TrialRelations_l21.eq_1
theorem e_law04_TrialRelations_r22 : type_of% f_law04_TrialRelations_r22.eq_1 := by_rfl f_law04_TrialRelations_r22.eq_1
theorem e_law04_TrialRelations_l23 : type_of% f_law04_TrialRelations_l23.eq_1 := by_rfl f_law04_TrialRelations_l23.eq_1
theorem e_law04_TrialRelations_r24 : type_of% f_law04_TrialRelations_r24.eq_1 := by_rfl f_law04_TrialRelations_r24.eq_1
theorem e_law04_TrialRelations : type_of% f_law04_TrialRelations.eq_1 := by_rfl f_law04_TrialRelations.eq_1
theorem ok_law04_TrialRelations : fnC Try.prog a_law04_TrialRelations Try.f5 = some f_law04_TrialRelations := by kernel_rfl

/-! 12 fumarole/fumarolelaw04.TrialPlans -/
def f_law04_TrialPlans_r0 : List Abs.Op := [
  ⟨some 3, none, false, .boxi (.t 0)⟩,
  ⟨some 6, none, false, .mv (.c (.bool false))⟩]

def f_law04_TrialPlans_r1 : List Abs.Op := [
  ⟨some 19, none, false, .fadr 2 (.t 3)⟩,
  ⟨some 20, none, false, .ld false 1 (.t 19)⟩,
  ⟨some 21, none, false, .lenS (.t 20)⟩,
  ⟨some 22, none, false, .bin .gtr (.t 21) (.c (.int .i64 10))⟩,
  ⟨some 23, none, false, .mv (.t 22)⟩,
  ⟨some 24, some (23, false), false, .ld true 3 (.t 3)⟩,
  ⟨some 25, some (23, false), false, .call false (.c (.fn i_ref04_SurveyFault [] [])) [(.t 24)]⟩,
  ⟨some 26, some (23, false), false, .bin .neq (.t 25) (.c (.int .i64 0))⟩,
  ⟨some 27, none, false, .pick (.t 23) (.c (.bool true)) (.t 26)⟩,
  ⟨some 28, none, false, .mv (.t 27)⟩,
  ⟨some 29, some (28, false), false, .fadr 1 (.t 3)⟩,
  ⟨some 30, some (28, false), false, .ld false 1 (.t 29)⟩,
  ⟨some 31, some (28, false), false, .bin .eql (.t 30) (.c (.int .i64 (-2000000000)))⟩,
  ⟨some 32, none, false, .pick (.t 28) (.c (.bool true)) (.t 31)⟩]

def f_law04_TrialPlans_r2 : List Abs.Op := [
  ⟨some 33, none, false, .call false (.c (.fn i_law04_wakes [] [])) []⟩,
  ⟨some 6, none, false, .mv (.t 33)⟩]

def f_law04_TrialPlans_r3 : List Abs.Op := [
  ⟨some 34, none, false, .ld true 3 (.t 3)⟩,
  ⟨some 35, none, false, .call false (.c (.fn i_law04_Survey [] [])) [(.t 34)]⟩,
  ⟨some 7, none, false, .alcv [] [(.int .i64 0), (.int .i64 0), .nils]⟩,
  ⟨none, none, false, .stv 7 [] 3 7 (.t 35)⟩]

def f_law04_TrialPlans_r4 : List Abs.Op := [
  ⟨some 37, none, false, .ldv 7 true 3 7⟩,
  ⟨some 38, none, false, .call false (.c (.fn i_trial_Plan [] [])) [(.t 37)]⟩,
  ⟨some 36, none, false, .mv (.t 38)⟩,
  ⟨some 39, none, false, .ext (.t 36) 0⟩,
  ⟨some 40, none, false, .ext (.t 36) 1⟩,
  ⟨some 8, none, false, .mv (.t 39)⟩,
  ⟨some 9, none, false, .mv (.t 40)⟩]

def f_law04_TrialPlans_r5 : List Abs.Op := [
  ⟨some 42, none, false, .ldv 7 true 3 7⟩,
  ⟨some 43, none, false, .call false (.c (.fn i_trial_Groups [] [])) [(.t 42)]⟩,
  ⟨some 41, none, false, .mv (.t 43)⟩,
  ⟨some 44, none, false, .ext (.t 41) 0⟩,
  ⟨some 45, none, false, .ext (.t 41) 1⟩,
  ⟨some 10, none, false, .mv (.t 44)⟩,
  ⟨some 11, none, false, .mv (.t 45)⟩]

def f_law04_TrialPlans_r6 : List Abs.Op := [
  ⟨some 46, none, false, .mv (.t 9)⟩,
  ⟨some 47, none, false, .bin .neq (.t 46) (.c (.int .i64 0))⟩]

def f_law04_TrialPlans_r7 : List Abs.Op := [
  ⟨some 48, none, false, .mv (.t 9)⟩,
  ⟨some 49, none, false, .bin .eql (.t 48) (.c (.int .i64 9))⟩,
  ⟨some 50, none, false, .mv (.t 49)⟩,
  ⟨some 51, some (50, true), false, .call false (.c (.fn i_law04_wakes [] [])) []⟩,
  ⟨some 52, none, false, .pick (.t 50) (.t 51) (.c (.bool false))⟩,
  ⟨some 6, none, false, .mv (.t 52)⟩]

def f_law04_TrialPlans_r8 : List Abs.Op := [
  ⟨some 53, none, false, .fadr 0 (.t 3)⟩,
  ⟨some 54, none, false, .ld false 1 (.t 53)⟩,
  ⟨some 55, none, false, .mv (.t 1)⟩,
  ⟨some 56, none, false, .call false (.c (.fn i_law04_divided [] [])) [(.t 54), (.t 55)]⟩,
  ⟨some 12, none, false, .mv (.t 56)⟩]

def f_law04_TrialPlans_r9 : List Abs.Op := [
  ⟨some 57, none, true, .ldv 7 true 3 7⟩,
  ⟨some 58, none, true, .bsm 0 1 [] []⟩,
  ⟨some 59, none, true, .mv (.t 12)⟩,
  ⟨some 60, none, false, .apz 1 8 (.t 58) (.t 59)⟩,
  ⟨some 61, none, false, .call false (.c (.fn i_trial_Fits [] [])) [(.t 57), (.t 60)]⟩,
  ⟨some 62, none, false, .un .not (.t 61)⟩]

def f_law04_TrialPlans_r10 : List Abs.Op := [
  ⟨some 63, none, false, .bsm 0 1 [] []⟩,
  ⟨some 64, none, false, .mv (.t 10)⟩,
  ⟨some 65, none, false, .app 1 8 (.t 63) (.t 64)⟩,
  ⟨some 12, none, false, .mv (.t 65)⟩]

def f_law04_TrialPlans_r11 : List Abs.Op := [
  ⟨some 66, none, false, .mv (.t 11)⟩,
  ⟨some 67, none, false, .bin .neq (.t 66) (.c (.int .i64 0))⟩,
  ⟨some 68, none, false, .mv (.t 67)⟩,
  ⟨some 69, some (68, false), false, .mv (.t 8)⟩,
  ⟨some 70, some (68, false), false, .lenS (.t 69)⟩,
  ⟨some 71, some (68, false), false, .fadr 0 (.t 3)⟩,
  ⟨some 72, some (68, false), false, .ld false 1 (.t 71)⟩,
  ⟨some 73, some (68, false), false, .bin .gtr (.t 70) (.t 72)⟩,
  ⟨some 74, none, false, .pick (.t 68) (.c (.bool true)) (.t 73)⟩]

def f_law04_TrialPlans_r12 : List Abs.Op := [
  ⟨some 6, none, false, .mv (.c (.bool false))⟩]

def f_law04_TrialPlans_r13 : List Abs.Op := [
  ⟨some 76, none, false, .ldv 7 true 3 7⟩,
  ⟨some 77, none, false, .mv (.t 8)⟩,
  ⟨some 78, none, false, .mv (.t 12)⟩,
  ⟨some 79, none, false, .call false (.c (.fn i_law04_known [] [])) [(.t 76), (.t 77), (.t 78)]⟩,
  ⟨some 75, none, false, .mv (.t 79)⟩,
  ⟨some 80, none, false, .ext (.t 75) 0⟩,
  ⟨some 81, none, false, .ext (.t 75) 1⟩,
  ⟨some 13, none, false, .mv (.t 80)⟩,
  ⟨some 14, none, false, .mv (.t 81)⟩]

def f_law04_TrialPlans_r14 : List Abs.Op := [
  ⟨some 82, none, false, .mv (.t 14)⟩,
  ⟨some 83, none, false, .mv (.t 82)⟩,
  ⟨some 84, some (83, true), false, .mv (.t 13)⟩,
  ⟨some 85, some (83, true), false, .un .not (.t 84)⟩,
  ⟨some 86, none, false, .pick (.t 83) (.t 85) (.c (.bool false))⟩]

def f_law04_TrialPlans_r15 : List Abs.Op := [
  ⟨some 6, none, false, .mv (.c (.bool false))⟩]

def f_law04_TrialPlans_r16 : List Abs.Op := [
  ⟨some 15, none, false, .nilb 1⟩]

def f_law04_TrialPlans_r17 : List Abs.Op := [
  ⟨some 16, none, false, .mv (.c (.int .i64 0))⟩]

def f_law04_TrialPlans_r18 : List Abs.Op := [
  ⟨some 87, none, false, .mv (.t 16)⟩,
  ⟨some 88, none, false, .fadr 0 (.t 3)⟩,
  ⟨some 89, none, false, .ld false 1 (.t 88)⟩,
  ⟨some 90, none, false, .bin .lss (.t 87) (.t 89)⟩]

def f_law04_TrialPlans_r19 : List Abs.Op := [
  ⟨some 93, none, false, .mv (.t 2)⟩,
  ⟨some 94, none, false, .mv (.t 16)⟩,
  ⟨some 95, none, false, .cvt .u64 (.t 94)⟩,
  ⟨some 96, none, false, .bin .shr (.t 93) (.t 95)⟩,
  ⟨some 97, none, false, .bin .and (.t 96) (.c (.int .u16 1))⟩,
  ⟨some 98, none, false, .bin .eql (.t 97) (.c (.int .u16 1))⟩]

def f_law04_TrialPlans_r20 : List Abs.Op := [
  ⟨some 99, none, false, .mv (.t 15)⟩,
  ⟨some 100, none, false, .mv (.t 16)⟩,
  ⟨some 101, none, false, .bsi 1 1 [(.int .i64 0)] [(0, 1, (.t 100))]⟩,
  ⟨some 102, none, false, .app 1 8 (.t 99) (.t 101)⟩,
  ⟨some 15, none, false, .mv (.t 102)⟩]

def f_law04_TrialPlans_r21 : List Abs.Op := [
  ⟨some 91, none, false, .mv (.t 16)⟩,
  ⟨some 92, none, false, .bin .add (.t 91) (.c (.int .i64 1))⟩,
  ⟨some 16, none, false, .mv (.t 92)⟩]

def f_law04_TrialPlans_l22 : Abs.Cmd :=
  (.seq (.seq (.reg [2, 3, 7, 8, 10, 15, 16, 90] f_law04_TrialPlans_r18) (.ite (.t 90) .nop (.exit 0))) (.seq (.blk 1 (.seq (.reg [2, 3, 7, 8, 10, 15, 16, 98] f_law04_TrialPlans_r19) (.ite (.t 98) (.reg [2, 3, 7, 8, 10, 15, 16] f_law04_TrialPlans_r20) .nop))) (.reg [2, 3, 7, 8, 10, 15, 16] f_law04_TrialPlans_r21)))

def f_law04_TrialPlans_r23 : List Abs.Op := [
  ⟨some 104, none, false, .ldv 7 true 3 7⟩,
  ⟨some 105, none, false, .mv (.t 15)⟩,
  ⟨some 106, none, false, .mv (.t 10)⟩,
  ⟨some 107, none, false, .call false (.c (.fn i_law04_known [] [])) [(.t 104), (.t 105), (.t 106)]⟩,
  ⟨some 103, none, false, .mv (.t 107)⟩,
  ⟨some 108, none, false, .ext (.t 103) 0⟩,
  ⟨some 109, none, false, .ext (.t 103) 1⟩,
  ⟨some 17, none, false, .mv (.t 108)⟩,
  ⟨some 18, none, false, .mv (.t 109)⟩]

def f_law04_TrialPlans_r24 : List Abs.Op := [
  ⟨some 110, none, false, .mv (.t 15)⟩,
  ⟨some 111, none, false, .lenS (.t 110)⟩,
  ⟨some 112, none, false, .mv (.t 8)⟩,
  ⟨some 113, none, false, .lenS (.t 112)⟩,
  ⟨some 114, none, false, .bin .geq (.t 111) (.t 113)⟩,
  ⟨some 115, none, false, .mv (.t 114)⟩,
  ⟨some 116, some (115, false), false, .mv (.t 18)⟩,
  ⟨some 117, some (115, false), false, .un .not (.t 116)⟩,
  ⟨some 118, none, false, .pick (.t 115) (.c (.bool true)) (.t 117)⟩,
  ⟨some 119, none, false, .mv (.t 118)⟩,
  ⟨some 120, some (119, false), false, .mv (.t 17)⟩,
  ⟨some 121, some (119, false), false, .un .not (.t 120)⟩,
  ⟨some 122, none, false, .pick (.t 119) (.c (.bool true)) (.t 121)⟩,
  ⟨some 123, none, false, .mv (.t 122)⟩,
  ⟨some 124, some (123, true), false, .call false (.c (.fn i_law04_wakes [] [])) []⟩,
  ⟨some 125, none, false, .pick (.t 123) (.t 124) (.c (.bool false))⟩,
  ⟨some 6, none, false, .mv (.t 125)⟩]

def a_law04_TrialPlans : Ann := ⟨[(23, [6]), (22, [8, 15, 17, 18]), (19, [2, 3, 7, 8, 10, 15, 16]), (21, [2, 3, 7, 8, 10, 15, 16]), (20, [2, 3, 7, 8, 10, 15, 16, 98]), (18, [2, 3, 7, 8, 10, 15, 16, 90]), (17, [2, 3, 7, 8, 10, 15, 16]), (16, [2, 3, 7, 8, 10, 15]), (15, [6]), (14, [2, 3, 7, 8, 10, 86]), (13, [2, 3, 7, 8, 10, 13, 14]), (12, [6]), (11, [2, 3, 7, 8, 10, 12, 74]), (10, [2, 3, 7, 8, 10, 11, 12]), (9, [2, 3, 7, 8, 10, 11, 12, 62]), (8, [2, 3, 7, 8, 10, 11, 12]), (7, [6]), (6, [1, 2, 3, 7, 8, 9, 10, 11, 47]), (5, [1, 2, 3, 7, 8, 9, 10, 11]), (4, [1, 2, 3, 7, 8, 9]), (3, [1, 2, 3, 7]), (2, [6]), (1, [1, 2, 3, 32]), (0, [1, 2, 3])], [(0, [2, 3, 7, 8, 10, 15, 16])], [], [7, 15, 58, 63], [7], [], [9003], [(22, [15]), (11, [12])], [], []⟩
def f_law04_TrialPlans : Abs.Fn := ⟨3, [.t 6],
  (.seq (.reg [1, 2, 3] f_law04_TrialPlans_r0) (.seq (.seq (.reg [1, 2, 3, 32] f_law04_TrialPlans_r1) (.ite (.t 32) (.seq (.reg [6] f_law04_TrialPlans_r2) .ret) .nop)) (.seq (.reg [1, 2, 3, 7] f_law04_TrialPlans_r3) (.seq (.reg [1, 2, 3, 7, 8, 9] f_law04_TrialPlans_r4) (.seq (.reg [1, 2, 3, 7, 8, 9, 10, 11] f_law04_TrialPlans_r5) (.seq (.seq (.reg [1, 2, 3, 7, 8, 9, 10, 11, 47] f_law04_TrialPlans_r6) (.ite (.t 47) (.seq (.reg [6] f_law04_TrialPlans_r7) .ret) .nop)) (.seq (.reg [2, 3, 7, 8, 10, 11, 12] f_law04_TrialPlans_r8) (.seq (.seq (.reg [2, 3, 7, 8, 10, 11, 12, 62] f_law04_TrialPlans_r9) (.ite (.t 62) (.reg [2, 3, 7, 8, 10, 11, 12] f_law04_TrialPlans_r10) .nop)) (.seq (.seq (.seq (.frz [12]) (.reg [2, 3, 7, 8, 10, 12, 74] f_law04_TrialPlans_r11)) (.ite (.t 74) (.seq (.reg [6] f_law04_TrialPlans_r12) .ret) .nop)) (.seq (.seq (.reg [2, 3, 7, 8, 10, 13, 14] f_law04_TrialPlans_r13) (.seq (.reg [2, 3, 7, 8, 10, 86] f_law04_TrialPlans_r14) (.ite (.t 86) (.seq (.reg [6] f_law04_TrialPlans_r15) .ret) .nop))) (.seq (.reg [2, 3, 7, 8, 10, 15] f_law04_TrialPlans_r16) (.seq (.seq (.reg [2, 3, 7, 8, 10, 15, 16] f_law04_TrialPlans_r17) (.blk 0 (.loop [2, 3, 7, 8, 10, 15, 16] false f_law04_TrialPlans_l22))) (.seq (.seq (.frz [15]) (.reg [8, 15, 17, 18] f_law04_TrialPlans_r23)) (.seq (.reg [6] f_law04_TrialPlans_r24) .ret))))))))))))))⟩

theorem e_law04_TrialPlans_r0 : type_of% f_law04_TrialPlans_r0.eq_1 := by_rfl f_law04_TrialPlans_r0.eq_1
theorem e_law04_TrialPlans_r1 : type_of% f_law04_TrialPlans_r1.eq_1 := by_rfl f_law04_TrialPlans_r1.eq_1
theorem e_law04_TrialPlans_r2 : type_of% f_law04_TrialPlans_r2.eq_1 := by_rfl f_law04_TrialPlans_r2.eq_1
theorem e_law04_TrialPlans_r3 : type_of% f_law04_TrialPlans_r3.eq_1 := by_rfl f_law04_TrialPlans_r3.eq_1
theorem e_law04_TrialPlans_r4 : type_of% f_law04_TrialPlans_r4.eq_1 := by_rfl f_law04_TrialPlans_r4.eq_1
theorem e_law04_TrialPlans_r5 : type_of% f_law04_TrialPlans_r5.eq_1 := by_rfl f_law04_TrialPlans_r5.eq_1
theorem e_law04_TrialPlans_r6 : type_of% f_law04_TrialPlans_r6.eq_1 := by_rfl f_law04_TrialPlans_r6.eq_1
theorem e_law04_TrialPlans_r7 : type_of% f_law04_TrialPlans_r7.eq_1 := by_rfl f_law04_TrialPlans_r7.eq_1
theorem e_law04_TrialPlans_r8 : type_of% f_law04_TrialPlans_r8.eq_1 := by_rfl f_law04_TrialPlans_r8.eq_1
theorem e_law04_TrialPlans_r9 : type_of% f_law04_TrialPlans_r9.eq_1 := by_rfl f_law04_TrialPlans_r9.eq_1
theorem e_law04_TrialPlans_r10 : type_of% f_law04_TrialPlans_r10.eq_1 := by_rfl f_law04_TrialPlans_r10.eq_1
theorem e_law04_TrialPlans_r11 : type_of% f_law04_TrialPlans_r11.eq_1 := by_rfl f_law04_TrialPlans_r11.eq_1
theorem e_law04_TrialPlans_r12 : type_of% f_law04_TrialPlans_r12.eq_1 := by_rfl f_law04_TrialPlans_r12.eq_1
theorem e_law04_TrialPlans_r13 : type_of% f_law04_TrialPlans_r13.eq_1 := by_rfl f_law04_TrialPlans_r13.eq_1
theorem e_law04_TrialPlans_r14 : type_of% f_law04_TrialPlans_r14.eq_1 := by_rfl f_law04_TrialPlans_r14.eq_1
theorem e_law04_TrialPlans_r15 : type_of% f_law04_TrialPlans_r15.eq_1 := by_rfl f_law04_TrialPlans_r15.eq_1
theorem e_law04_TrialPlans_r16 : type_of% f_law04_TrialPlans_r16.eq_1 := by_rfl f_law04_TrialPlans_r16.eq_1
theorem e_law04_TrialPlans_r17 : type_of% f_law04_TrialPlans_r17.eq_1 := by_rfl f_law04_TrialPlans_r17.eq_1
theorem e_law04_TrialPlans_r18 : type_of% f_law04_TrialPlans_r18.eq_1 := by_rfl f_law04_TrialPlans_r18.eq_1
theorem e_law04_TrialPlans_r19 : type_of% f_law04_TrialPlans_r19.eq_1 := by_rfl f_law04_TrialPlans_r19.eq_1
theorem e_law04_TrialPlans_r20 : type_of% f_law04_TrialPlans_r20.eq_1 := by_rfl f_law04_TrialPlans_r20.eq_1
theorem e_law04_TrialPlans_r21 : type_of% f_law04_TrialPlans_r21.eq_1 := by_rfl f_law04_TrialPlans_r21.eq_1
theorem e_law04_TrialPlans_l22 : type_of% f_law04_TrialPlans_l22.eq_1 := by_rfl f_law04_TrialPlans_l22.eq_1
theorem e_law04_TrialPlans_r23 : type_of% f_law04_TrialPlans_r23.eq_1 := by_rfl f_law04_TrialPlans_r23.eq_1
theorem e_law04_TrialPlans_r24 : type_of% f_law04_TrialPlans_r24.eq_1 := by_rfl f_law04_TrialPlans_r24.eq_1
theorem e_law04_TrialPlans : type_of% f_law04_TrialPlans.eq_1 := by_rfl f_law04_TrialPlans.eq_1
theorem ok_law04_TrialPlans : fnC Try.prog a_law04_TrialPlans Try.f12 = some f_law04_TrialPlans := by kernel_rfl

/-! 18 fumarole/fumarolelaw04.wakes -/
def f_law04_wakes_r0 : List Abs.Op := [
  ⟨some 0, none, false, .mv (.c (.bool false))⟩]

def f_law04_wakes_r1 : List Abs.Op := [
  ⟨some 13, none, false, .call false (.c (.fn i_law04_well [] [])) []⟩,
  ⟨some 14, none, false, .call false (.c (.fn i_trial_Curves [] [])) [(.t 13)]⟩,
  ⟨some 12, none, false, .mv (.t 14)⟩,
  ⟨some 15, none, false, .ext (.t 12) 0⟩,
  ⟨some 16, none, false, .ext (.t 12) 1⟩,
  ⟨some 17, none, false, .ext (.t 12) 2⟩,
  ⟨some 18, none, false, .ext (.t 12) 3⟩,
  ⟨some 19, none, false, .ext (.t 12) 4⟩,
  ⟨some 2, none, false, .alcv [] [(.int .i64 0), (.int .i64 0)]⟩,
  ⟨some 3, none, false, .alcv [] [(.int .i64 0), (.int .i64 0)]⟩,
  ⟨some 4, none, false, .alcv [] [(.int .i64 0), (.int .i64 0)]⟩,
  ⟨some 1, none, false, .mv (.t 15)⟩,
  ⟨none, none, false, .stv 2 [] 2 2 (.t 16)⟩,
  ⟨none, none, false, .stv 3 [] 2 3 (.t 17)⟩,
  ⟨none, none, false, .stv 4 [] 2 4 (.t 18)⟩,
  ⟨some 5, none, false, .mv (.t 19)⟩]

def f_law04_wakes_r2 : List Abs.Op := [
  ⟨some 21, none, false, .call false (.c (.fn i_law04_well [] [])) []⟩,
  ⟨some 22, none, false, .call false (.c (.fn i_trial_Drawdown [] [])) [(.t 21), (.c (.int .i64 20))]⟩,
  ⟨some 20, none, false, .mv (.t 22)⟩,
  ⟨some 23, none, false, .ext (.t 20) 0⟩,
  ⟨some 24, none, false, .ext (.t 20) 1⟩,
  ⟨some 6, none, false, .alcv [] [(.int .i64 0), (.int .i64 0)]⟩,
  ⟨none, none, false, .stv 6 [] 2 6 (.t 23)⟩,
  ⟨some 7, none, false, .mv (.t 24)⟩]

def f_law04_wakes_r3 : List Abs.Op := [
  ⟨some 26, none, false, .call false (.c (.fn i_law04_wells [] [])) []⟩,
  ⟨some 27, none, false, .call false (.c (.fn i_trial_Groups [] [])) [(.t 26)]⟩,
  ⟨some 25, none, false, .mv (.t 27)⟩,
  ⟨some 28, none, false, .ext (.t 25) 0⟩,
  ⟨some 29, none, false, .ext (.t 25) 1⟩,
  ⟨some 8, none, false, .mv (.t 28)⟩,
  ⟨some 9, none, false, .mv (.t 29)⟩]

def f_law04_wakes_r4 : List Abs.Op := [
  ⟨some 31, none, false, .call false (.c (.fn i_law04_wells [] [])) []⟩,
  ⟨some 32, none, false, .call false (.c (.fn i_trial_Plan [] [])) [(.t 31)]⟩,
  ⟨some 30, none, false, .mv (.t 32)⟩,
  ⟨some 33, none, false, .ext (.t 30) 0⟩,
  ⟨some 34, none, false, .ext (.t 30) 1⟩,
  ⟨some 10, none, false, .mv (.t 33)⟩,
  ⟨some 11, none, false, .mv (.t 34)⟩]

def f_law04_wakes_r5 : List Abs.Op := [
  ⟨some 35, none, false, .mv (.t 5)⟩,
  ⟨some 36, none, false, .bin .eql (.t 35) (.c (.int .i64 0))⟩,
  ⟨some 37, none, false, .mv (.t 36)⟩,
  ⟨some 38, some (37, true), false, .mv (.t 7)⟩,
  ⟨some 39, some (37, true), false, .bin .eql (.t 38) (.c (.int .i64 0))⟩,
  ⟨some 40, none, false, .pick (.t 37) (.t 39) (.c (.bool false))⟩,
  ⟨some 41, none, false, .mv (.t 40)⟩,
  ⟨some 42, some (41, true), false, .mv (.t 9)⟩,
  ⟨some 43, some (41, true), false, .bin .eql (.t 42) (.c (.int .i64 0))⟩,
  ⟨some 44, none, false, .pick (.t 41) (.t 43) (.c (.bool false))⟩,
  ⟨some 45, none, false, .mv (.t 44)⟩,
  ⟨some 46, some (45, true), false, .mv (.t 11)⟩,
  ⟨some 47, some (45, true), false, .bin .eql (.t 46) (.c (.int .i64 0))⟩,
  ⟨some 48, none, false, .pick (.t 45) (.t 47) (.c (.bool false))⟩,
  ⟨some 49, none, false, .mv (.t 48)⟩,
  ⟨some 50, some (49, true), false, .mv (.t 1)⟩,
  ⟨some 51, some (49, true), false, .bin .eql (.t 50) (.c (.int .i64 4))⟩,
  ⟨some 52, none, false, .pick (.t 49) (.t 51) (.c (.bool false))⟩,
  ⟨some 53, none, false, .mv (.t 52)⟩,
  ⟨some 54, some (53, true), false, .ldv 2 true 2 2⟩,
  ⟨some 55, some (53, true), false, .bld [(.int .i64 0), (.int .i64 0)] [(0, 1, (.c (.int .i64 2))), (1, 1, (.c (.int .i64 3)))]⟩,
  ⟨some 56, some (53, true), false, .eqv true [some .i64, some .i64] false (.t 54) (.t 55)⟩,
  ⟨some 57, none, false, .pick (.t 53) (.t 56) (.c (.bool false))⟩,
  ⟨some 58, none, false, .mv (.t 57)⟩,
  ⟨some 59, some (58, true), false, .ldv 3 true 2 3⟩,
  ⟨some 60, some (58, true), false, .ldv 2 true 2 2⟩,
  ⟨some 61, some (58, true), false, .eqv true [some .i64, some .i64] false (.t 59) (.t 60)⟩,
  ⟨some 62, none, false, .pick (.t 58) (.t 61) (.c (.bool false))⟩,
  ⟨some 63, none, false, .mv (.t 62)⟩,
  ⟨some 64, some (63, true), false, .ldv 6 true 2 6⟩,
  ⟨some 65, some (63, true), false, .bld [(.int .i64 0), (.int .i64 0)] [(0, 1, (.c (.int .i64 42))), (1, 1, (.c (.int .i64 63)))]⟩,
  ⟨some 66, some (63, true), false, .eqv true [some .i64, some .i64] false (.t 64) (.t 65)⟩,
  ⟨some 67, none, false, .pick (.t 63) (.t 66) (.c (.bool false))⟩,
  ⟨some 68, none, false, .mv (.t 67)⟩,
  ⟨some 69, some (68, true), false, .mv (.t 8)⟩,
  ⟨some 70, some (68, true), false, .bsi 4 1 [(.int .i64 0), (.int .i64 0), (.int .i64 0), (.int .i64 0)] [(0, 1, (.c (.int .i64 0))), (1, 1, (.c (.int .i64 0))), (2, 1, (.c (.int .i64 2))), (3, 1, (.c (.int .i64 3)))]⟩,
  ⟨some 71, some (68, true), false, .call false (.c (.fn i_law04_ints [] [])) [(.t 69), (.t 70)]⟩,
  ⟨some 72, none, false, .pick (.t 68) (.t 71) (.c (.bool false))⟩,
  ⟨some 73, none, false, .mv (.t 72)⟩,
  ⟨some 74, some (73, true), false, .mv (.t 10)⟩,
  ⟨some 75, some (73, true), false, .bsi 1 1 [(.int .i64 0)] [(0, 1, (.c (.int .i64 3)))]⟩,
  ⟨some 76, some (73, true), false, .call false (.c (.fn i_law04_ints [] [])) [(.t 74), (.t 75)]⟩,
  ⟨some 77, none, false, .pick (.t 73) (.t 76) (.c (.bool false))⟩,
  ⟨some 0, none, false, .mv (.t 77)⟩]

def a_law04_wakes : Ann := ⟨[(5, [0]), (4, [1, 2, 3, 5, 6, 7, 8, 9, 10, 11]), (3, [1, 2, 3, 5, 6, 7, 8, 9]), (2, [1, 2, 3, 5, 6, 7]), (1, [1, 2, 3, 5]), (0, [])], [], [], [2, 3, 4, 6], [2, 3, 4, 6], [], [], [], [], []⟩
def f_law04_wakes : Abs.Fn := ⟨0, [.t 0],
  (.seq (.reg [] f_law04_wakes_r0) (.seq (.reg [1, 2, 3, 5] f_law04_wakes_r1) (.seq (.reg [1, 2, 3, 5, 6, 7] f_law04_wakes_r2) (.seq (.reg [1, 2, 3, 5, 6, 7, 8, 9] f_law04_wakes_r3) (.seq (.reg [1, 2, 3, 5, 6, 7, 8, 9, 10, 11] f_law04_wakes_r4) (.seq (.reg [0] f_law04_wakes_r5) .ret))))))⟩

theorem e_law04_wakes_r0 : type_of% f_law04_wakes_r0.eq_1 := by_rfl f_law04_wakes_r0.eq_1
theorem e_law04_wakes_r1 : type_of% f_law04_wakes_r1.eq_1 := by_rfl f_law04_wakes_r1.eq_1
theorem e_law04_wakes_r2 : type_of% f_law04_wakes_r2.eq_1 := by_rfl f_law04_wakes_r2.eq_1
theorem e_law04_wakes_r3 : type_of% f_law04_wakes_r3.eq_1 := by_rfl f_law04_wakes_r3.eq_1
theorem e_law04_wakes_r4 : type_of% f_law04_wakes_r4.eq_1 := by_rfl f_law04_wakes_r4.eq_1
theorem e_law04_wakes_r5 : type_of% f_law04_wakes_r5.eq_1 := by_rfl f_law04_wakes_r5.eq_1
theorem e_law04_wakes : type_of% f_law04_wakes.eq_1 := by_rfl f_law04_wakes.eq_1
theorem ok_law04_wakes : fnC Try.prog a_law04_wakes Try.f18 = some f_law04_wakes := by kernel_rfl

/-! 19 fumarole/trial.CheckTest -/
def f_trial_CheckTest_r0 : List Abs.Op := [
  ⟨some 1, none, false, .boxi (.t 0)⟩,
  ⟨some 2, none, false, .mv (.c (.int .i64 0))⟩]

def f_trial_CheckTest_r1 : List Abs.Op := [
  ⟨some 5, none, false, .fadr 6 (.t 1)⟩,
  ⟨some 6, none, false, .ld false 1 (.t 5)⟩,
  ⟨some 7, none, false, .lenS (.t 6)⟩,
  ⟨some 8, none, false, .bin .gtr (.t 7) (.c (.int .i64 12))⟩]

def f_trial_CheckTest_r2 : List Abs.Op := [
  ⟨some 2, none, false, .mv (.c (.int .i64 3))⟩]

def f_trial_CheckTest_r3 : List Abs.Op := [
  ⟨some 9, none, false, .fadr 0 (.t 1)⟩,
  ⟨some 10, none, false, .ld true 2 (.t 9)⟩,
  ⟨some 11, none, false, .call false (.c (.fn i_trial_Range_right [] [])) [(.t 10), (.c (.int .i64 0)), (.c (.int .i64 100000))]⟩,
  ⟨some 12, none, false, .un .not (.t 11)⟩,
  ⟨some 13, none, false, .mv (.t 12)⟩,
  ⟨some 14, some (13, false), false, .fadr 2 (.t 1)⟩,
  ⟨some 15, some (13, false), false, .ld true 2 (.t 14)⟩,
  ⟨some 16, some (13, false), false, .call false (.c (.fn i_trial_Range_right [] [])) [(.t 15), (.c (.int .i64 0)), (.c (.int .i64 10000))]⟩,
  ⟨some 17, some (13, false), false, .un .not (.t 16)⟩,
  ⟨some 18, none, false, .pick (.t 13) (.c (.bool true)) (.t 17)⟩,
  ⟨some 19, none, false, .mv (.t 18)⟩,
  ⟨some 20, some (19, false), false, .fadr 4 (.t 1)⟩,
  ⟨some 21, some (19, false), false, .ld true 2 (.t 20)⟩,
  ⟨some 22, some (19, false), false, .call false (.c (.fn i_trial_Range_right [] [])) [(.t 21), (.c (.int .i64 0)), (.c (.int .i64 1000))]⟩,
  ⟨some 23, some (19, false), false, .un .not (.t 22)⟩,
  ⟨some 24, none, false, .pick (.t 19) (.c (.bool true)) (.t 23)⟩,
  ⟨some 25, none, false, .mv (.t 24)⟩,
  ⟨some 26, some (25, false), false, .fadr 2 (.t 1)⟩,
  ⟨some 27, some (25, false), false, .fadr 1 (.t 26)⟩,
  ⟨some 28, some (25, false), false, .ld false 1 (.t 27)⟩,
  ⟨some 29, some (25, false), false, .fadr 2 (.t 1)⟩,
  ⟨some 30, some (25, false), false, .fadr 0 (.t 29)⟩,
  ⟨some 31, some (25, false), false, .ld false 1 (.t 30)⟩,
  ⟨some 32, some (25, false), false, .bin .sub (.t 28) (.t 31)⟩,
  ⟨some 33, some (25, false), false, .bin .geq (.t 32) (.c (.int .i64 40))⟩,
  ⟨some 34, none, false, .pick (.t 25) (.c (.bool true)) (.t 33)⟩,
  ⟨some 35, none, false, .mv (.t 34)⟩,
  ⟨some 36, some (35, false), false, .fadr 4 (.t 1)⟩,
  ⟨some 37, some (35, false), false, .fadr 1 (.t 36)⟩,
  ⟨some 38, some (35, false), false, .ld false 1 (.t 37)⟩,
  ⟨some 39, some (35, false), false, .fadr 4 (.t 1)⟩,
  ⟨some 40, some (35, false), false, .fadr 0 (.t 39)⟩,
  ⟨some 41, some (35, false), false, .ld false 1 (.t 40)⟩,
  ⟨some 42, some (35, false), false, .bin .sub (.t 38) (.t 41)⟩,
  ⟨some 43, some (35, false), false, .bin .geq (.t 42) (.c (.int .i64 40))⟩,
  ⟨some 44, none, false, .pick (.t 35) (.c (.bool true)) (.t 43)⟩]

def f_trial_CheckTest_r4 : List Abs.Op := [
  ⟨some 2, none, false, .mv (.c (.int .i64 1))⟩]

def f_trial_CheckTest_r5 : List Abs.Op := [
  ⟨some 45, none, false, .fadr 6 (.t 1)⟩,
  ⟨some 46, none, false, .ld false 1 (.t 45)⟩,
  ⟨some 47, none, false, .lenS (.t 46)⟩,
  ⟨some 48, none, false, .mv (.c (.int .i64 0))⟩]

def f_trial_CheckTest_r6 : List Abs.Op := [
  ⟨some 49, none, false, .bin .lss (.t 48) (.t 47)⟩]

def f_trial_CheckTest_r7 : List Abs.Op := [
  ⟨some 50, none, false, .idxS 3 (.t 46) (.t 48)⟩,
  ⟨some 51, none, false, .ld true 3 (.t 50)⟩,
  ⟨some 4, none, false, .alcv [] [(.int .i64 0), (.int .i64 0), (.int .i64 0)]⟩,
  ⟨none, none, false, .stv 4 [] 3 4 (.t 51)⟩]

def f_trial_CheckTest_r8 : List Abs.Op := [
  ⟨some 52, none, false, .fadr 0 (.t 4)⟩,
  ⟨some 53, none, false, .ldv 4 false 1 52⟩,
  ⟨some 54, none, false, .call false (.c (.fn i_trial_within [] [])) [(.t 53), (.c (.int .i64 0)), (.c (.int .i64 1000))]⟩,
  ⟨some 55, none, false, .un .not (.t 54)⟩,
  ⟨some 56, none, false, .mv (.t 55)⟩,
  ⟨some 57, some (56, false), false, .fadr 1 (.t 4)⟩,
  ⟨some 58, some (56, false), false, .ldv 4 true 2 57⟩,
  ⟨some 59, some (56, false), false, .call false (.c (.fn i_trial_Range_drops [] [])) [(.t 58)]⟩,
  ⟨some 60, some (56, false), false, .un .not (.t 59)⟩,
  ⟨some 61, none, false, .pick (.t 56) (.c (.bool true)) (.t 60)⟩]

def f_trial_CheckTest_r9 : List Abs.Op := [
  ⟨some 2, none, false, .mv (.c (.int .i64 1))⟩]

def f_trial_CheckTest_r10 : List Abs.Op := [
  ⟨some 62, none, false, .bin .add (.t 48) (.c (.int .i64 1))⟩,
  ⟨some 48, none, false, .mv (.t 62)⟩]

def f_trial_CheckTest_l11 : Abs.Cmd :=
  (.seq (.reg [46, 47, 48, 49] f_trial_CheckTest_r6) (.seq (.ite (.t 49) .nop (.exit 0)) (.seq (.blk 1 (.seq (.reg [4, 46, 47, 48] f_trial_CheckTest_r7) (.seq (.reg [46, 47, 48, 61] f_trial_CheckTest_r8) (.ite (.t 61) (.seq (.reg [2] f_trial_CheckTest_r9) .ret) .nop)))) (.reg [46, 47, 48] f_trial_CheckTest_r10))))

def f_trial_CheckTest_r12 : List Abs.Op := [
  ⟨some 2, none, false, .mv (.c (.int .i64 0))⟩]

def a_trial_CheckTest : Ann := ⟨[(11, [2]), (10, [46, 47, 48]), (9, [2]), (8, [46, 47, 48, 61]), (7, [4, 46, 47, 48]), (6, [46, 47, 48, 49]), (5, [46, 47, 48]), (4, [2]), (3, [1, 44]), (2, [2]), (1, [1, 8]), (0, [1])], [(0, [46, 47, 48])], [], [4], [4], [], [], [], [], []⟩
def f_trial_CheckTest : Abs.Fn := ⟨1, [.t 2],
  (.seq (.reg [1] f_trial_CheckTest_r0) (.seq (.seq (.reg [1, 8] f_trial_CheckTest_r1) (.ite (.t 8) (.seq (.reg [2] f_trial_CheckTest_r2) .ret) .nop)) (.seq (.seq (.reg [1, 44] f_trial_CheckTest_r3) (.ite (.t 44) (.seq (.reg [2] f_trial_CheckTest_r4) .ret) .nop)) (.seq (.seq (.reg [46, 47, 48] f_trial_CheckTest_r5) (.blk 0 (.loop [46, 47, 48] false f_trial_CheckTest_l11))) (.seq (.reg [2] f_trial_CheckTest_r12) .ret)))))⟩

theorem e_trial_CheckTest_r0 : type_of% f_trial_CheckTest_r0.eq_1 := by_rfl f_trial_CheckTest_r0.eq_1
theorem e_trial_CheckTest_r1 : type_of% f_trial_CheckTest_r1.eq_1 := by_rfl f_trial_CheckTest_r1.eq_1
theorem e_trial_CheckTest_r2 : type_of% f_trial_CheckTest_r2.eq_1 := by_rfl f_trial_CheckTest_r2.eq_1
theorem e_trial_CheckTest_r3 : type_of% f_trial_CheckTest_r3.eq_1 := by_rfl f_trial_CheckTest_r3.eq_1
theorem e_trial_CheckTest_r4 : type_of% f_trial_CheckTest_r4.eq_1 := by_rfl f_trial_CheckTest_r4.eq_1
theorem e_trial_CheckTest_r5 : type_of% f_trial_CheckTest_r5.eq_1 := by_rfl f_trial_CheckTest_r5.eq_1
theorem e_trial_CheckTest_r6 : type_of% f_trial_CheckTest_r6.eq_1 := by_rfl f_trial_CheckTest_r6.eq_1
theorem e_trial_CheckTest_r7 : type_of% f_trial_CheckTest_r7.eq_1 := by_rfl f_trial_CheckTest_r7.eq_1
theorem e_trial_CheckTest_r8 : type_of% f_trial_CheckTest_r8.eq_1 := by_rfl f_trial_CheckTest_r8.eq_1
theorem e_trial_CheckTest_r9 : type_of% f_trial_CheckTest_r9.eq_1 := by_rfl f_trial_CheckTest_r9.eq_1
theorem e_trial_CheckTest_r10 : type_of% f_trial_CheckTest_r10.eq_1 := by_rfl f_trial_CheckTest_r10.eq_1
theorem e_trial_CheckTest_l11 : type_of% f_trial_CheckTest_l11.eq_1 := by_rfl f_trial_CheckTest_l11.eq_1
theorem e_trial_CheckTest_r12 : type_of% f_trial_CheckTest_r12.eq_1 := by_rfl f_trial_CheckTest_r12.eq_1
theorem e_trial_CheckTest : type_of% f_trial_CheckTest.eq_1 := by_rfl f_trial_CheckTest.eq_1
theorem ok_trial_CheckTest : fnC Try.prog a_trial_CheckTest Try.f19 = some f_trial_CheckTest := by kernel_rfl

/-! 24 fumarole/trial.Curves -/
def f_trial_Curves_r0 : List Abs.Op := [
  ⟨some 1, none, false, .boxi (.t 0)⟩,
  ⟨some 2, none, false, .alc [] [(.int .i64 0)]⟩,
  ⟨some 3, none, false, .alc [] [(.int .i64 0), (.int .i64 0)]⟩,
  ⟨some 4, none, false, .alc [] [(.int .i64 0), (.int .i64 0)]⟩,
  ⟨some 5, none, false, .alc [] [(.int .i64 0), (.int .i64 0)]⟩,
  ⟨some 6, none, false, .mv (.c (.int .i64 0))⟩]

def f_trial_Curves_r1 : List Abs.Op := [
  ⟨some 12, none, false, .ldi true 7 (.t 1)⟩,
  ⟨some 13, none, false, .call false (.c (.fn i_trial_CheckTest [] [])) [(.t 12)]⟩,
  ⟨some 7, none, false, .mv (.t 13)⟩]

def f_trial_Curves_r2 : List Abs.Op := [
  ⟨some 14, none, false, .mv (.t 7)⟩,
  ⟨some 15, none, false, .bin .neq (.t 14) (.c (.int .i64 0))⟩]

def f_trial_Curves_r3 : List Abs.Op := [
  ⟨some 16, none, true, .ld true 2 (.t 3)⟩,
  ⟨some 17, none, true, .ld true 2 (.t 4)⟩,
  ⟨some 18, none, true, .ld true 2 (.t 5)⟩,
  ⟨some 19, none, true, .mv (.t 7)⟩,
  ⟨none, none, true, .stc [3, 4, 5] 1 (.t 2) (.c (.int .i64 0))⟩,
  ⟨none, none, true, .stc [4, 5, 2] 2 (.t 3) (.t 16)⟩,
  ⟨none, none, true, .stc [3, 5, 2] 2 (.t 4) (.t 17)⟩,
  ⟨none, none, true, .stc [3, 4, 2] 2 (.t 5) (.t 18)⟩,
  ⟨some 6, none, false, .mv (.t 19)⟩]

def f_trial_Curves_r4 : List Abs.Op := [
  ⟨some 20, none, false, .ldi true 7 (.t 1)⟩,
  ⟨some 21, none, false, .call true (.c (.fn i_trial_Test_sets [] [])) [(.t 20)]⟩]

def f_trial_Curves_r5 : List Abs.Op := [
  ⟨some 8, none, false, .alcv [] [(.int .i64 0), (.int .i64 0), (.int .i64 0)]⟩,
  ⟨none, none, false, .stv 8 [] 3 8 (.t 22)⟩]

def f_trial_Curves_r6 : List Abs.Op := [
  ⟨some 9, none, false, .alcv [] [(.int .i64 0), (.int .i64 0)]⟩,
  ⟨none, none, false, .stv 9 [] 2 9 (.t 23)⟩]

def f_trial_Curves_r7 : List Abs.Op := [
  ⟨some 24, none, true, .fadr 1 (.t 8)⟩,
  ⟨some 25, none, true, .ldv 8 false 1 24⟩,
  ⟨some 26, none, true, .fadr 1 (.t 8)⟩,
  ⟨some 27, none, true, .ldv 8 false 1 26⟩,
  ⟨some 28, none, true, .bld [(.int .i64 0), (.int .i64 0)] [(0, 1, (.t 25)), (1, 1, (.t 27))]⟩,
  ⟨some 29, none, true, .fadr 2 (.t 8)⟩,
  ⟨some 30, none, true, .ldv 8 false 1 29⟩,
  ⟨some 31, none, true, .fadr 2 (.t 8)⟩,
  ⟨some 32, none, true, .ldv 8 false 1 31⟩,
  ⟨some 33, none, true, .bld [(.int .i64 0), (.int .i64 0)] [(0, 1, (.t 30)), (1, 1, (.t 32))]⟩,
  ⟨some 10, none, true, .alcv [] [(.int .i64 0), (.int .i64 0)]⟩,
  ⟨some 11, none, true, .alcv [] [(.int .i64 0), (.int .i64 0)]⟩,
  ⟨none, none, true, .stv 10 [] 2 10 (.t 28)⟩,
  ⟨none, none, false, .stv 11 [] 2 11 (.t 33)⟩]

def f_trial_Curves_r8 : List Abs.Op := [
  ⟨some 34, none, false, .ld false 1 (.t 2)⟩,
  ⟨some 35, none, false, .bin .eql (.t 34) (.c (.int .i64 0))⟩]

def f_trial_Curves_r9 : List Abs.Op := [
  ⟨some 36, none, true, .ldv 9 true 2 9⟩,
  ⟨some 37, none, true, .ldv 10 true 2 10⟩,
  ⟨some 38, none, true, .ldv 11 true 2 11⟩,
  ⟨none, none, true, .stc [4, 5] 2 (.t 3) (.t 36)⟩,
  ⟨none, none, true, .stc [3, 5] 2 (.t 4) (.t 37)⟩,
  ⟨none, none, false, .stc [3, 4] 2 (.t 5) (.t 38)⟩]

def f_trial_Curves_r10 : List Abs.Op := [
  ⟨some 39, none, false, .ld false 1 (.t 2)⟩,
  ⟨some 40, none, false, .fadr 1 (.t 9)⟩,
  ⟨some 41, none, false, .ldv 9 false 1 40⟩,
  ⟨some 42, none, false, .fadr 0 (.t 9)⟩,
  ⟨some 43, none, false, .ldv 9 false 1 42⟩,
  ⟨some 44, none, false, .bin .sub (.t 41) (.t 43)⟩,
  ⟨some 45, none, false, .bin .add (.t 44) (.c (.int .i64 1))⟩,
  ⟨some 46, none, false, .bin .add (.t 39) (.t 45)⟩,
  ⟨none, none, false, .st [] 1 (.t 2) (.t 46)⟩]

def f_trial_Curves_r11 : List Abs.Op := [
  ⟨some 47, none, true, .ld true 2 (.t 3)⟩,
  ⟨some 48, none, true, .ldv 9 true 2 9⟩,
  ⟨some 49, none, true, .call false (.c (.fn i_trial_span [] [])) [(.t 47), (.t 48)]⟩,
  ⟨some 50, none, true, .ld true 2 (.t 4)⟩,
  ⟨some 51, none, true, .ldv 10 true 2 10⟩,
  ⟨some 52, none, true, .call false (.c (.fn i_trial_span [] [])) [(.t 50), (.t 51)]⟩,
  ⟨some 53, none, true, .ld true 2 (.t 5)⟩,
  ⟨some 54, none, true, .ldv 11 true 2 11⟩,
  ⟨some 55, none, false, .call false (.c (.fn i_trial_span [] [])) [(.t 53), (.t 54)]⟩,
  ⟨none, none, false, .stc [4, 5] 2 (.t 3) (.t 49)⟩,
  ⟨none, none, false, .stc [3, 5] 2 (.t 4) (.t 52)⟩,
  ⟨none, none, false, .stc [3, 4] 2 (.t 5) (.t 55)⟩]

def f_trial_Curves_a12 : Abs.Cmd :=
  (.seq (.reg [2, 3, 4, 5, 8, 23] f_trial_Curves_r5) (.reg [2, 3, 4, 5, 8, 9] f_trial_Curves_r6))

def f_trial_Curves_b12 : Abs.Cmd :=
  (.blk 1 (.seq (.reg [2, 3, 4, 5, 9, 10, 11] f_trial_Curves_r7) (.seq (.seq (.reg [2, 3, 4, 5, 9, 10, 11, 35] f_trial_Curves_r8) (.ite (.t 35) (.reg [2, 3, 4, 5, 9, 10, 11] f_trial_Curves_r9) .nop)) (.seq (.reg [3, 4, 5, 9, 10, 11] f_trial_Curves_r10) (.reg [] f_trial_Curves_r11)))))

def f_trial_Curves_r13 : List Abs.Op := [
  ⟨some 56, none, false, .ld false 1 (.t 2)⟩,
  ⟨some 57, none, false, .bin .eql (.t 56) (.c (.int .i64 0))⟩]

def f_trial_Curves_r14 : List Abs.Op := [
  ⟨some 58, none, true, .ld true 2 (.t 3)⟩,
  ⟨some 59, none, true, .ld true 2 (.t 4)⟩,
  ⟨some 60, none, true, .ld true 2 (.t 5)⟩,
  ⟨none, none, true, .stc [3, 4, 5] 1 (.t 2) (.c (.int .i64 0))⟩,
  ⟨none, none, true, .stc [4, 5, 2] 2 (.t 3) (.t 58)⟩,
  ⟨none, none, true, .stc [3, 5, 2] 2 (.t 4) (.t 59)⟩,
  ⟨none, none, false, .stc [3, 4, 2] 2 (.t 5) (.t 60)⟩,
  ⟨some 6, none, false, .mv (.c (.int .i64 7))⟩]

def f_trial_Curves_r15 : List Abs.Op := [
  ⟨some 61, none, true, .ld false 1 (.t 2)⟩,
  ⟨some 62, none, true, .ld true 2 (.t 3)⟩,
  ⟨some 63, none, true, .ld true 2 (.t 4)⟩,
  ⟨some 64, none, true, .ld true 2 (.t 5)⟩,
  ⟨none, none, true, .stc [3, 4, 5] 1 (.t 2) (.t 61)⟩,
  ⟨none, none, true, .stc [2, 4, 5] 2 (.t 3) (.t 62)⟩,
  ⟨none, none, true, .stc [2, 3, 5] 2 (.t 4) (.t 63)⟩,
  ⟨none, none, false, .stc [2, 3, 4] 2 (.t 5) (.t 64)⟩,
  ⟨some 6, none, false, .mv (.c (.int .i64 0))⟩]

def a_trial_Curves : Ann := ⟨[(14, [2, 3, 4, 5, 6]), (13, [2, 3, 4, 5, 6]), (12, [2, 3, 4, 5, 57]), (11, []), (10, [3, 4, 5, 9, 10, 11]), (9, [2, 3, 4, 5, 9, 10, 11]), (8, [2, 3, 4, 5, 9, 10, 11, 35]), (7, [2, 3, 4, 5, 9, 10, 11]), (6, [2, 3, 4, 5, 8, 9]), (5, [2, 3, 4, 5, 8, 23]), (4, [2, 3, 4, 5, 6, 21]), (3, [2, 3, 4, 5, 6]), (2, [1, 2, 3, 4, 5, 6, 7, 15]), (1, [1, 2, 3, 4, 5, 6, 7]), (0, [1, 2, 3, 4, 5, 6])], [(0, [2, 3, 4, 5, 6])], [], [2, 3, 4, 5, 8, 9, 10, 11], [8, 9, 10, 11], [], [4001], [], [1], [(3004, some [3, 4, 5]), (3005, some [4, 5, 2]), (3006, some [3, 5, 2]), (3007, some [3, 4, 2]), (9003, some [4, 5]), (9004, some [3, 5]), (9005, some [3, 4]), (11009, some [4, 5]), (11010, some [3, 5]), (11011, some [3, 4]), (13003, some [3, 4, 5]), (13004, some [4, 5, 2]), (13005, some [3, 5, 2]), (13006, some [3, 4, 2]), (14004, some [3, 4, 5]), (14005, some [2, 4, 5]), (14006, some [2, 3, 5]), (14007, some [2, 3, 4])]⟩
def f_trial_Curves : Abs.Fn := ⟨1, [.c 2 false 1, .c 3 true 2, .c 4 true 2, .c 5 true 2, .t 6],
  (.seq (.reg [1, 2, 3, 4, 5, 6] f_trial_Curves_r0) (.seq (.seq (.reg [1, 2, 3, 4, 5, 6, 7] f_trial_Curves_r1) (.seq (.reg [1, 2, 3, 4, 5, 6, 7, 15] f_trial_Curves_r2) (.ite (.t 15) (.seq (.reg [2, 3, 4, 5, 6] f_trial_Curves_r3) .ret) .nop))) (.seq (.seq (.reg [2, 3, 4, 5, 6, 21] f_trial_Curves_r4) (.blk 0 (.rngf [2, 3, 4, 5, 6] (.t 21) [22, 23] f_trial_Curves_a12 f_trial_Curves_b12))) (.seq (.seq (.reg [2, 3, 4, 5, 57] f_trial_Curves_r13) (.ite (.t 57) (.seq (.reg [2, 3, 4, 5, 6] f_trial_Curves_r14) .ret) .nop)) (.seq (.reg [2, 3, 4, 5, 6] f_trial_Curves_r15) .ret)))))⟩

theorem e_trial_Curves_r0 : type_of% f_trial_Curves_r0.eq_1 := by_rfl f_trial_Curves_r0.eq_1
theorem e_trial_Curves_r1 : type_of% f_trial_Curves_r1.eq_1 := by_rfl f_trial_Curves_r1.eq_1
theorem e_trial_Curves_r2 : type_of% f_trial_Curves_r2.eq_1 := by_rfl f_trial_Curves_r2.eq_1
theorem e_trial_Curves_r3 : type_of% f_trial_Curves_r3.eq_1 := by_rfl f_trial_Curves_r3.eq_1
theorem e_trial_Curves_r4 : type_of% f_trial_Curves_r4.eq_1 := by_rfl f_trial_Curves_r4.eq_1
theorem e_trial_Curves_r5 : type_of% f_trial_Curves_r5.eq_1 := by_rfl f_trial_Curves_r5.eq_1
theorem e_trial_Curves_r6 : type_of% f_trial_Curves_r6.eq_1 := by_rfl f_trial_Curves_r6.eq_1
theorem e_trial_Curves_r7 : type_of% f_trial_Curves_r7.eq_1 := by_rfl f_trial_Curves_r7.eq_1
theorem e_trial_Curves_r8 : type_of% f_trial_Curves_r8.eq_1 := by_rfl f_trial_Curves_r8.eq_1
theorem e_trial_Curves_r9 : type_of% f_trial_Curves_r9.eq_1 := by_rfl f_trial_Curves_r9.eq_1
theorem e_trial_Curves_r10 : type_of% f_trial_Curves_r10.eq_1 := by_rfl f_trial_Curves_r10.eq_1
theorem e_trial_Curves_r11 : type_of% f_trial_Curves_r11.eq_1 := by_rfl f_trial_Curves_r11.eq_1
theorem e_trial_Curves_a12 : type_of% f_trial_Curves_a12.eq_1 := by_rfl f_trial_Curves_a12.eq_1
theorem e_trial_Curves_b12 : type_of% f_trial_Curves_b12.eq_1 := by_rfl f_trial_Curves_b12.eq_1
theorem e_trial_Curves_r13 : type_of% f_trial_Curves_r13.eq_1 := by_rfl f_trial_Curves_r13.eq_1
theorem e_trial_Curves_r14 : type_of% f_trial_Curves_r14.eq_1 := by_rfl f_trial_Curves_r14.eq_1
theorem e_trial_Curves_r15 : type_of% f_trial_Curves_r15.eq_1 := by_rfl f_trial_Curves_r15.eq_1
theorem e_trial_Curves : type_of% f_trial_Curves.eq_1 := by_rfl f_trial_Curves.eq_1
theorem ok_trial_Curves : fnC Try.prog a_trial_Curves Try.f24 = some f_trial_Curves := by kernel_rfl

/-! 27 fumarole/fumarolelaw04.Range -/
def f_law04_Range_r0 : List Abs.Op := [
  ⟨some 1, none, false, .boxi (.t 0)⟩,
  ⟨some 2, none, false, .alcv [] [(.int .i64 0), (.int .i64 0)]⟩]

def f_law04_Range_r1 : List Abs.Op := [
  ⟨some 3, none, false, .fadr 0 (.t 1)⟩,
  ⟨some 4, none, false, .ld false 1 (.t 3)⟩,
  ⟨some 5, none, false, .fadr 1 (.t 1)⟩,
  ⟨some 6, none, false, .ld false 1 (.t 5)⟩,
  ⟨some 7, none, false, .bld [(.int .i64 0), (.int .i64 0)] [(0, 1, (.t 4)), (1, 1, (.t 6))]⟩,
  ⟨none, none, false, .stv 2 [] 2 2 (.t 7)⟩]

def a_law04_Range : Ann := ⟨[(1, [2]), (0, [1, 2])], [], [], [2], [2], [], [], [], [], []⟩
def f_law04_Range : Abs.Fn := ⟨1, [.v 2 true 2],
  (.seq (.reg [1, 2] f_law04_Range_r0) (.seq (.reg [2] f_law04_Range_r1) .ret))⟩

theorem e_law04_Range_r0 : type_of% f_law04_Range_r0.eq_1 := by_rfl f_law04_Range_r0.eq_1
theorem e_law04_Range_r1 : type_of% f_law04_Range_r1.eq_1 := by_rfl f_law04_Range_r1.eq_1
theorem e_law04_Range : type_of% f_law04_Range.eq_1 := by_rfl f_law04_Range.eq_1
theorem ok_law04_Range : fnC Try.prog a_law04_Range Try.f27 = some f_law04_Range := by kernel_rfl

/-! 28 fumarole/fumaroleref04.In -/
def f_ref04_In_r0 : List Abs.Op := [
  ⟨some 6, none, false, .mv (.c (.bool false))⟩]

def f_ref04_In_r1 : List Abs.Op := [
  ⟨some 7, none, false, .mv (.t 0)⟩,
  ⟨some 8, none, false, .mv (.t 1)⟩,
  ⟨some 9, none, false, .bin .geq (.t 7) (.t 8)⟩,
  ⟨some 10, none, false, .mv (.t 9)⟩,
  ⟨some 11, some (10, true), false, .mv (.t 0)⟩,
  ⟨some 12, some (10, true), false, .mv (.t 2)⟩,
  ⟨some 13, some (10, true), false, .bin .leq (.t 11) (.t 12)⟩,
  ⟨some 14, none, false, .pick (.t 10) (.t 13) (.c (.bool false))⟩,
  ⟨some 6, none, false, .mv (.t 14)⟩]

def a_ref04_In : Ann := ⟨[(1, [6]), (0, [0, 1, 2])], [], [], [], [], [], [], [], [], []⟩
def f_ref04_In : Abs.Fn := ⟨3, [.t 6],
  (.seq (.reg [0, 1, 2] f_ref04_In_r0) (.seq (.reg [6] f_ref04_In_r1) .ret))⟩

theorem e_ref04_In_r0 : type_of% f_ref04_In_r0.eq_1 := by_rfl f_ref04_In_r0.eq_1
theorem e_ref04_In_r1 : type_of% f_ref04_In_r1.eq_1 := by_rfl f_ref04_In_r1.eq_1
theorem e_ref04_In : type_of% f_ref04_In.eq_1 := by_rfl f_ref04_In.eq_1
theorem ok_ref04_In : fnC Try.prog a_ref04_In Try.f28 = some f_ref04_In := by kernel_rfl

/-! 29 fumarole/fumaroleref04.Right -/
def f_ref04_Right_r0 : List Abs.Op := [
  ⟨some 3, none, false, .boxi (.t 0)⟩,
  ⟨some 6, none, false, .mv (.c (.bool false))⟩]

def f_ref04_Right_r1 : List Abs.Op := [
  ⟨some 7, none, false, .fadr 0 (.t 3)⟩,
  ⟨some 8, none, false, .ld false 1 (.t 7)⟩,
  ⟨some 9, none, false, .mv (.t 1)⟩,
  ⟨some 10, none, false, .mv (.t 2)⟩,
  ⟨some 11, none, false, .call false (.c (.fn i_ref04_In [] [])) [(.t 8), (.t 9), (.t 10)]⟩,
  ⟨some 12, none, false, .mv (.t 11)⟩,
  ⟨some 13, some (12, true), false, .fadr 1 (.t 3)⟩,
  ⟨some 14, some (12, true), false, .ld false 1 (.t 13)⟩,
  ⟨some 15, some (12, true), false, .mv (.t 1)⟩,
  ⟨some 16, some (12, true), false, .mv (.t 2)⟩,
  ⟨some 17, some (12, true), false, .call false (.c (.fn i_ref04_In [] [])) [(.t 14), (.t 15), (.t 16)]⟩,
  ⟨some 18, none, false, .pick (.t 12) (.t 17) (.c (.bool false))⟩,
  ⟨some 19, none, false, .mv (.t 18)⟩,
  ⟨some 20, some (19, true), false, .fadr 0 (.t 3)⟩,
  ⟨some 21, some (19, true), false, .ld false 1 (.t 20)⟩,
  ⟨some 22, some (19, true), false, .fadr 1 (.t 3)⟩,
  ⟨some 23, some (19, true), false, .ld false 1 (.t 22)⟩,
  ⟨some 24, some (19, true), false, .bin .leq (.t 21) (.t 23)⟩,
  ⟨some 25, none, false, .pick (.t 19) (.t 24) (.c (.bool false))⟩,
  ⟨some 6, none, false, .mv (.t 25)⟩]

def a_ref04_Right : Ann := ⟨[(1, [6]), (0, [1, 2, 3])], [], [], [], [], [], [], [], [], []⟩
def f_ref04_Right : Abs.Fn := ⟨3, [.t 6],
  (.seq (.reg [1, 2, 3] f_ref04_Right_r0) (.seq (.reg [6] f_ref04_Right_r1) .ret))⟩

theorem e_ref04_Right_r0 : type_of% f_ref04_Right_r0.eq_1 := by_rfl f_ref04_Right_r0.eq_1
theorem e_ref04_Right_r1 : type_of% f_ref04_Right_r1.eq_1 := by_rfl f_ref04_Right_r1.eq_1
theorem e_ref04_Right : type_of% f_ref04_Right.eq_1 := by_rfl f_ref04_Right.eq_1
theorem ok_ref04_Right : fnC Try.prog a_ref04_Right Try.f29 = some f_ref04_Right := by kernel_rfl

/-! 31 fumarole/trial.Drawdown -/
def f_trial_Drawdown_r0 : List Abs.Op := [
  ⟨some 2, none, false, .boxi (.t 0)⟩,
  ⟨some 4, none, false, .alcv [] [(.int .i64 0), (.int .i64 0)]⟩,
  ⟨some 5, none, false, .mv (.c (.int .i64 0))⟩]

def f_trial_Drawdown_r1 : List Abs.Op := [
  ⟨some 9, none, false, .ld true 7 (.t 2)⟩,
  ⟨some 10, none, false, .call false (.c (.fn i_trial_CheckTest [] [])) [(.t 9)]⟩,
  ⟨some 6, none, false, .mv (.t 10)⟩]

def f_trial_Drawdown_r2 : List Abs.Op := [
  ⟨some 11, none, false, .mv (.t 6)⟩,
  ⟨some 12, none, false, .bin .neq (.t 11) (.c (.int .i64 0))⟩]

def f_trial_Drawdown_r3 : List Abs.Op := [
  ⟨some 13, none, false, .bld [(.int .i64 0), (.int .i64 0)] []⟩,
  ⟨some 14, none, false, .mv (.t 6)⟩,
  ⟨none, none, false, .stv 4 [] 2 4 (.t 13)⟩,
  ⟨some 5, none, false, .mv (.t 14)⟩]

def f_trial_Drawdown_r4 : List Abs.Op := [
  ⟨some 15, none, false, .mv (.t 1)⟩,
  ⟨some 16, none, false, .call false (.c (.fn i_trial_within [] [])) [(.t 15), (.c (.int .i64 0)), (.c (.int .i64 1000))]⟩,
  ⟨some 17, none, false, .un .not (.t 16)⟩]

def f_trial_Drawdown_r5 : List Abs.Op := [
  ⟨some 18, none, false, .bld [(.int .i64 0), (.int .i64 0)] []⟩,
  ⟨none, none, false, .stv 4 [] 2 4 (.t 18)⟩,
  ⟨some 5, none, false, .mv (.c (.int .i64 2))⟩]

def f_trial_Drawdown_r6 : List Abs.Op := [
  ⟨some 20, none, false, .ld true 7 (.t 2)⟩,
  ⟨some 21, none, false, .mv (.t 1)⟩,
  ⟨some 22, none, false, .call false (.c (.fn i_trial_Test_drawdown [] [])) [(.t 20), (.t 21)]⟩,
  ⟨some 19, none, false, .mv (.t 22)⟩,
  ⟨some 23, none, false, .ext (.t 19) 0⟩,
  ⟨some 24, none, false, .ext (.t 19) 1⟩,
  ⟨some 7, none, false, .alcv [] [(.int .i64 0), (.int .i64 0)]⟩,
  ⟨none, none, false, .stv 7 [] 2 7 (.t 23)⟩,
  ⟨some 8, none, false, .mv (.t 24)⟩]

def f_trial_Drawdown_r7 : List Abs.Op := [
  ⟨some 25, none, false, .mv (.t 8)⟩,
  ⟨some 26, none, false, .un .not (.t 25)⟩]

def f_trial_Drawdown_r8 : List Abs.Op := [
  ⟨some 27, none, false, .bld [(.int .i64 0), (.int .i64 0)] []⟩,
  ⟨none, none, false, .stv 4 [] 2 4 (.t 27)⟩,
  ⟨some 5, none, false, .mv (.c (.int .i64 7))⟩]

def f_trial_Drawdown_r9 : List Abs.Op := [
  ⟨some 28, none, false, .ldv 7 true 2 7⟩,
  ⟨none, none, false, .stv 4 [] 2 4 (.t 28)⟩,
  ⟨some 5, none, false, .mv (.c (.int .i64 0))⟩]

def a_trial_Drawdown : Ann := ⟨[(9, [4, 5]), (8, [4, 5]), (7, [4, 7, 26]), (6, [4, 7, 8]), (5, [4, 5]), (4, [1, 2, 4, 17]), (3, [4, 5]), (2, [1, 2, 4, 6, 12]), (1, [1, 2, 4, 6]), (0, [1, 2, 4])], [], [], [4, 7], [4, 7], [], [], [], [], []⟩
def f_trial_Drawdown : Abs.Fn := ⟨2, [.v 4 true 2, .t 5],
  (.seq (.reg [1, 2, 4] f_trial_Drawdown_r0) (.seq (.seq (.reg [1, 2, 4, 6] f_trial_Drawdown_r1) (.seq (.reg [1, 2, 4, 6, 12] f_trial_Drawdown_r2) (.ite (.t 12) (.seq (.reg [4, 5] f_trial_Drawdown_r3) .ret) .nop))) (.seq (.seq (.reg [1, 2, 4, 17] f_trial_Drawdown_r4) (.ite (.t 17) (.seq (.reg [4, 5] f_trial_Drawdown_r5) .ret) .nop)) (.seq (.reg [4, 7, 8] f_trial_Drawdown_r6) (.seq (.seq (.reg [4, 7, 26] f_trial_Drawdown_r7) (.ite (.t 26) (.seq (.reg [4, 5] f_trial_Drawdown_r8) .ret) .nop)) (.seq (.reg [4, 5] f_trial_Drawdown_r9) .ret))))))⟩

theorem e_trial_Drawdown_r0 : type_of% f_trial_Drawdown_r0.eq_1 := by_rfl f_trial_Drawdown_r0.eq_1
theorem e_trial_Drawdown_r1 : type_of% f_trial_Drawdown_r1.eq_1 := by_rfl f_trial_Drawdown_r1.eq_1
theorem e_trial_Drawdown_r2 : type_of% f_trial_Drawdown_r2.eq_1 := by_rfl f_trial_Drawdown_r2.eq_1
theorem e_trial_Drawdown_r3 : type_of% f_trial_Drawdown_r3.eq_1 := by_rfl f_trial_Drawdown_r3.eq_1
theorem e_trial_Drawdown_r4 : type_of% f_trial_Drawdown_r4.eq_1 := by_rfl f_trial_Drawdown_r4.eq_1
theorem e_trial_Drawdown_r5 : type_of% f_trial_Drawdown_r5.eq_1 := by_rfl f_trial_Drawdown_r5.eq_1
theorem e_trial_Drawdown_r6 : type_of% f_trial_Drawdown_r6.eq_1 := by_rfl f_trial_Drawdown_r6.eq_1
theorem e_trial_Drawdown_r7 : type_of% f_trial_Drawdown_r7.eq_1 := by_rfl f_trial_Drawdown_r7.eq_1
theorem e_trial_Drawdown_r8 : type_of% f_trial_Drawdown_r8.eq_1 := by_rfl f_trial_Drawdown_r8.eq_1
theorem e_trial_Drawdown_r9 : type_of% f_trial_Drawdown_r9.eq_1 := by_rfl f_trial_Drawdown_r9.eq_1
theorem e_trial_Drawdown : type_of% f_trial_Drawdown.eq_1 := by_rfl f_trial_Drawdown.eq_1
theorem ok_trial_Drawdown : fnC Try.prog a_trial_Drawdown Try.f31 = some f_trial_Drawdown := by kernel_rfl

/-! 32 fumarole/fumaroleref04.SurveyFault -/
def f_ref04_SurveyFault_r0 : List Abs.Op := [
  ⟨some 1, none, false, .boxi (.t 0)⟩,
  ⟨some 2, none, false, .mv (.c (.int .i64 0))⟩]

def f_ref04_SurveyFault_r1 : List Abs.Op := [
  ⟨some 5, none, false, .fadr 2 (.t 1)⟩,
  ⟨some 6, none, false, .ld false 1 (.t 5)⟩,
  ⟨some 7, none, false, .lenS (.t 6)⟩,
  ⟨some 8, none, false, .bin .gtr (.t 7) (.c (.int .i64 60))⟩]

def f_ref04_SurveyFault_r2 : List Abs.Op := [
  ⟨some 2, none, false, .mv (.c (.int .i64 3))⟩]

def f_ref04_SurveyFault_r3 : List Abs.Op := [
  ⟨some 9, none, false, .fadr 0 (.t 1)⟩,
  ⟨some 10, none, false, .ld false 1 (.t 9)⟩,
  ⟨some 11, none, false, .call false (.c (.fn i_ref04_In [] [])) [(.t 10), (.c (.int .i64 1)), (.c (.int .i64 10))]⟩,
  ⟨some 12, none, false, .un .not (.t 11)⟩,
  ⟨some 13, none, false, .mv (.t 12)⟩,
  ⟨some 14, some (13, false), false, .fadr 1 (.t 1)⟩,
  ⟨some 15, some (13, false), false, .ld false 1 (.t 14)⟩,
  ⟨some 16, some (13, false), false, .call false (.c (.fn i_ref04_In [] [])) [(.t 15), (.c (.int .i64 (-2000000000))), (.c (.int .i64 2000000000))]⟩,
  ⟨some 17, some (13, false), false, .un .not (.t 16)⟩,
  ⟨some 18, none, false, .pick (.t 13) (.c (.bool true)) (.t 17)⟩]

def f_ref04_SurveyFault_r4 : List Abs.Op := [
  ⟨some 2, none, false, .mv (.c (.int .i64 1))⟩]

def f_ref04_SurveyFault_r5 : List Abs.Op := [
  ⟨some 3, none, false, .mv (.c (.int .i64 0))⟩]

def f_ref04_SurveyFault_r6 : List Abs.Op := [
  ⟨some 19, none, false, .mv (.t 3)⟩,
  ⟨some 20, none, false, .fadr 2 (.t 1)⟩,
  ⟨some 21, none, false, .ld false 1 (.t 20)⟩,
  ⟨some 22, none, false, .lenS (.t 21)⟩,
  ⟨some 23, none, false, .bin .lss (.t 19) (.t 22)⟩]

def f_ref04_SurveyFault_r7 : List Abs.Op := [
  ⟨some 26, none, false, .fadr 2 (.t 1)⟩,
  ⟨some 27, none, false, .ld false 1 (.t 26)⟩,
  ⟨some 28, none, false, .mv (.t 3)⟩,
  ⟨some 29, none, false, .idxS 4 (.t 27) (.t 28)⟩,
  ⟨some 30, none, false, .ld true 4 (.t 29)⟩,
  ⟨some 4, none, false, .alcv [] [(.int .i64 0), (.int .i64 0), (.int .i64 0), (.int .i64 0)]⟩,
  ⟨none, none, false, .stv 4 [] 4 4 (.t 30)⟩]

def f_ref04_SurveyFault_r8 : List Abs.Op := [
  ⟨some 31, none, false, .fadr 0 (.t 4)⟩,
  ⟨some 32, none, false, .ldv 4 false 1 31⟩,
  ⟨some 33, none, false, .fadr 0 (.t 1)⟩,
  ⟨some 34, none, false, .ld false 1 (.t 33)⟩,
  ⟨some 35, none, false, .bin .sub (.t 34) (.c (.int .i64 1))⟩,
  ⟨some 36, none, false, .call false (.c (.fn i_ref04_In [] [])) [(.t 32), (.c (.int .i64 0)), (.t 35)]⟩,
  ⟨some 37, none, false, .un .not (.t 36)⟩,
  ⟨some 38, none, false, .mv (.t 37)⟩,
  ⟨some 39, some (38, false), false, .fadr 1 (.t 4)⟩,
  ⟨some 40, some (38, false), false, .ldv 4 false 1 39⟩,
  ⟨some 41, some (38, false), false, .fadr 0 (.t 1)⟩,
  ⟨some 42, some (38, false), false, .ld false 1 (.t 41)⟩,
  ⟨some 43, some (38, false), false, .bin .sub (.t 42) (.c (.int .i64 1))⟩,
  ⟨some 44, some (38, false), false, .call false (.c (.fn i_ref04_In [] [])) [(.t 40), (.c (.int .i64 0)), (.t 43)]⟩,
  ⟨some 45, some (38, false), false, .un .not (.t 44)⟩,
  ⟨some 46, none, false, .pick (.t 38) (.c (.bool true)) (.t 45)⟩,
  ⟨some 47, none, false, .mv (.t 46)⟩,
  ⟨some 48, some (47, false), false, .fadr 0 (.t 4)⟩,
  ⟨some 49, some (47, false), false, .ldv 4 false 1 48⟩,
  ⟨some 50, some (47, false), false, .fadr 1 (.t 4)⟩,
  ⟨some 51, some (47, false), false, .ldv 4 false 1 50⟩,
  ⟨some 52, some (47, false), false, .bin .eql (.t 49) (.t 51)⟩,
  ⟨some 53, none, false, .pick (.t 47) (.c (.bool true)) (.t 52)⟩,
  ⟨some 54, none, false, .mv (.t 53)⟩,
  ⟨some 55, some (54, false), false, .fadr 2 (.t 4)⟩,
  ⟨some 56, some (54, false), false, .ldv 4 true 2 55⟩,
  ⟨some 57, some (54, false), false, .call false (.c (.fn i_ref04_Right [] [])) [(.t 56), (.c (.int .i64 (-2000000000))), (.c (.int .i64 2000000000))]⟩,
  ⟨some 58, some (54, false), false, .un .not (.t 57)⟩,
  ⟨some 59, none, false, .pick (.t 54) (.c (.bool true)) (.t 58)⟩]

def f_ref04_SurveyFault_r9 : List Abs.Op := [
  ⟨some 2, none, false, .mv (.c (.int .i64 1))⟩]

def f_ref04_SurveyFault_r10 : List Abs.Op := [
  ⟨some 24, none, false, .mv (.t 3)⟩,
  ⟨some 25, none, false, .bin .add (.t 24) (.c (.int .i64 1))⟩,
  ⟨some 3, none, false, .mv (.t 25)⟩]

def f_ref04_SurveyFault_l11 : Abs.Cmd :=
  (.seq (.seq (.reg [1, 3, 23] f_ref04_SurveyFault_r6) (.ite (.t 23) .nop (.exit 0))) (.seq (.blk 1 (.seq (.reg [1, 3, 4] f_ref04_SurveyFault_r7) (.seq (.reg [1, 3, 59] f_ref04_SurveyFault_r8) (.ite (.t 59) (.seq (.reg [2] f_ref04_SurveyFault_r9) .ret) .nop)))) (.reg [1, 3] f_ref04_SurveyFault_r10)))

def f_ref04_SurveyFault_r12 : List Abs.Op := [
  ⟨some 2, none, false, .mv (.c (.int .i64 0))⟩]

def a_ref04_SurveyFault : Ann := ⟨[(11, [2]), (7, [1, 3]), (10, [2]), (9, [1, 3, 59]), (8, [1, 3, 4]), (6, [1, 3, 23]), (5, [1, 3]), (4, [2]), (3, [1, 18]), (2, [2]), (1, [1, 8]), (0, [1])], [(0, [1, 3])], [], [4], [4], [], [], [], [], []⟩
def f_ref04_SurveyFault : Abs.Fn := ⟨1, [.t 2],
  (.seq (.reg [1] f_ref04_SurveyFault_r0) (.seq (.seq (.reg [1, 8] f_ref04_SurveyFault_r1) (.ite (.t 8) (.seq (.reg [2] f_ref04_SurveyFault_r2) .ret) .nop)) (.seq (.seq (.reg [1, 18] f_ref04_SurveyFault_r3) (.ite (.t 18) (.seq (.reg [2] f_ref04_SurveyFault_r4) .ret) .nop)) (.seq (.seq (.reg [1, 3] f_ref04_SurveyFault_r5) (.blk 0 (.loop [1, 3] false f_ref04_SurveyFault_l11))) (.seq (.reg [2] f_ref04_SurveyFault_r12) .ret)))))⟩

theorem e_ref04_SurveyFault_r0 : type_of% f_ref04_SurveyFault_r0.eq_1 := by_rfl f_ref04_SurveyFault_r0.eq_1
theorem e_ref04_SurveyFault_r1 : type_of% f_ref04_SurveyFault_r1.eq_1 := by_rfl f_ref04_SurveyFault_r1.eq_1
theorem e_ref04_SurveyFault_r2 : type_of% f_ref04_SurveyFault_r2.eq_1 := by_rfl f_ref04_SurveyFault_r2.eq_1
theorem e_ref04_SurveyFault_r3 : type_of% f_ref04_SurveyFault_r3.eq_1 := by_rfl f_ref04_SurveyFault_r3.eq_1
theorem e_ref04_SurveyFault_r4 : type_of% f_ref04_SurveyFault_r4.eq_1 := by_rfl f_ref04_SurveyFault_r4.eq_1
theorem e_ref04_SurveyFault_r5 : type_of% f_ref04_SurveyFault_r5.eq_1 := by_rfl f_ref04_SurveyFault_r5.eq_1
theorem e_ref04_SurveyFault_r6 : type_of% f_ref04_SurveyFault_r6.eq_1 := by_rfl f_ref04_SurveyFault_r6.eq_1
theorem e_ref04_SurveyFault_r7 : type_of% f_ref04_SurveyFault_r7.eq_1 := by_rfl f_ref04_SurveyFault_r7.eq_1
theorem e_ref04_SurveyFault_r8 : type_of% f_ref04_SurveyFault_r8.eq_1 := by_rfl f_ref04_SurveyFault_r8.eq_1
theorem e_ref04_SurveyFault_r9 : type_of% f_ref04_SurveyFault_r9.eq_1 := by_rfl f_ref04_SurveyFault_r9.eq_1
theorem e_ref04_SurveyFault_r10 : type_of% f_ref04_SurveyFault_r10.eq_1 := by_rfl f_ref04_SurveyFault_r10.eq_1
theorem e_ref04_SurveyFault_l11 : type_of% f_ref04_SurveyFault_l11.eq_1 := by_rfl f_ref04_SurveyFault_l11.eq_1
theorem e_ref04_SurveyFault_r12 : type_of% f_ref04_SurveyFault_r12.eq_1 := by_rfl f_ref04_SurveyFault_r12.eq_1
theorem e_ref04_SurveyFault : type_of% f_ref04_SurveyFault.eq_1 := by_rfl f_ref04_SurveyFault.eq_1
theorem ok_ref04_SurveyFault : fnC Try.prog a_ref04_SurveyFault Try.f32 = some f_ref04_SurveyFault := by kernel_rfl

/-! 33 fumarole/fumaroleref04.Clash -/
def f_ref04_Clash_r0 : List Abs.Op := [
  ⟨some 1, none, false, .boxi (.t 0)⟩,
  ⟨some 2, none, false, .mv (.c (.int .i64 0))⟩]

def f_ref04_Clash_r1 : List Abs.Op := [
  ⟨some 6, none, false, .ld true 3 (.t 1)⟩,
  ⟨some 7, none, false, .call false (.c (.fn i_ref04_Groups [] [])) [(.t 6)]⟩,
  ⟨some 3, none, false, .mv (.t 7)⟩]

def f_ref04_Clash_r2 : List Abs.Op := [
  ⟨some 4, none, false, .mv (.c (.int .i64 0))⟩]

def f_ref04_Clash_r3 : List Abs.Op := [
  ⟨some 8, none, false, .mv (.t 4)⟩,
  ⟨some 9, none, false, .fadr 2 (.t 1)⟩,
  ⟨some 10, none, false, .ld false 1 (.t 9)⟩,
  ⟨some 11, none, false, .lenS (.t 10)⟩,
  ⟨some 12, none, false, .bin .lss (.t 8) (.t 11)⟩]

def f_ref04_Clash_r4 : List Abs.Op := [
  ⟨some 15, none, false, .fadr 2 (.t 1)⟩,
  ⟨some 16, none, false, .ld false 1 (.t 15)⟩,
  ⟨some 17, none, false, .mv (.t 4)⟩,
  ⟨some 18, none, false, .idxS 4 (.t 16) (.t 17)⟩,
  ⟨some 19, none, false, .ld true 4 (.t 18)⟩,
  ⟨some 5, none, false, .alcv [] [(.int .i64 0), (.int .i64 0), (.int .i64 0), (.int .i64 0)]⟩,
  ⟨none, none, false, .stv 5 [] 4 5 (.t 19)⟩]

def f_ref04_Clash_r5 : List Abs.Op := [
  ⟨some 20, none, true, .ld true 3 (.t 1)⟩,
  ⟨some 21, none, true, .ldv 5 true 4 5⟩,
  ⟨some 22, none, true, .call false (.c (.fn i_ref04_Against [] [])) [(.t 20), (.t 21)]⟩,
  ⟨some 23, none, true, .mv (.t 22)⟩,
  ⟨some 24, some (23, true), true, .mv (.t 3)⟩,
  ⟨some 25, some (23, true), true, .fadr 0 (.t 5)⟩,
  ⟨some 26, some (23, true), true, .ldv 5 false 1 25⟩,
  ⟨some 27, some (23, true), true, .idxS 1 (.t 24) (.t 26)⟩,
  ⟨some 28, some (23, true), true, .ld false 1 (.t 27)⟩,
  ⟨some 29, some (23, true), true, .mv (.t 3)⟩,
  ⟨some 30, some (23, true), true, .fadr 1 (.t 5)⟩,
  ⟨some 31, some (23, true), true, .ldv 5 false 1 30⟩,
  ⟨some 32, some (23, true), true, .idxS 1 (.t 29) (.t 31)⟩,
  ⟨some 33, some (23, true), true, .ld false 1 (.t 32)⟩,
  ⟨some 34, some (23, true), false, .bin .eql (.t 28) (.t 33)⟩,
  ⟨some 35, none, false, .pick (.t 23) (.t 34) (.c (.bool false))⟩]

def f_ref04_Clash_r6 : List Abs.Op := [
  ⟨some 36, none, false, .mv (.t 4)⟩,
  ⟨some 2, none, false, .mv (.t 36)⟩]

def f_ref04_Clash_r7 : List Abs.Op := [
  ⟨some 13, none, false, .mv (.t 4)⟩,
  ⟨some 14, none, false, .bin .add (.t 13) (.c (.int .i64 1))⟩,
  ⟨some 4, none, false, .mv (.t 14)⟩]

def f_ref04_Clash_l8 : Abs.Cmd :=
  (.seq (.seq (.reg [1, 3, 4, 12] f_ref04_Clash_r3) (.ite (.t 12) .nop (.exit 0))) (.seq (.blk 1 (.seq (.reg [1, 3, 4, 5] f_ref04_Clash_r4) (.seq (.reg [1, 3, 4, 35] f_ref04_Clash_r5) (.ite (.t 35) (.seq (.reg [2] f_ref04_Clash_r6) .ret) .nop)))) (.reg [1, 3, 4] f_ref04_Clash_r7)))

def f_ref04_Clash_r9 : List Abs.Op := [
  ⟨some 2, none, false, .mv (.c (.int .i64 (-1)))⟩]

def a_ref04_Clash : Ann := ⟨[(8, [2]), (4, [1, 3, 4]), (7, [2]), (6, [1, 3, 4, 35]), (5, [1, 3, 4, 5]), (3, [1, 3, 4, 12]), (2, [1, 3, 4]), (1, [1, 3]), (0, [1])], [(0, [1, 3, 4])], [], [5], [5], [], [], [], [], []⟩
def f_ref04_Clash : Abs.Fn := ⟨1, [.t 2],
  (.seq (.reg [1] f_ref04_Clash_r0) (.seq (.reg [1, 3] f_ref04_Clash_r1) (.seq (.seq (.reg [1, 3, 4] f_ref04_Clash_r2) (.blk 0 (.loop [1, 3, 4] false f_ref04_Clash_l8))) (.seq (.reg [2] f_ref04_Clash_r9) .ret))))⟩

theorem e_ref04_Clash_r0 : type_of% f_ref04_Clash_r0.eq_1 := by_rfl f_ref04_Clash_r0.eq_1
theorem e_ref04_Clash_r1 : type_of% f_ref04_Clash_r1.eq_1 := by_rfl f_ref04_Clash_r1.eq_1
theorem e_ref04_Clash_r2 : type_of% f_ref04_Clash_r2.eq_1 := by_rfl f_ref04_Clash_r2.eq_1
theorem e_ref04_Clash_r3 : type_of% f_ref04_Clash_r3.eq_1 := by_rfl f_ref04_Clash_r3.eq_1
theorem e_ref04_Clash_r4 : type_of% f_ref04_Clash_r4.eq_1 := by_rfl f_ref04_Clash_r4.eq_1
theorem e_ref04_Clash_r5 : type_of% f_ref04_Clash_r5.eq_1 := by_rfl f_ref04_Clash_r5.eq_1
theorem e_ref04_Clash_r6 : type_of% f_ref04_Clash_r6.eq_1 := by_rfl f_ref04_Clash_r6.eq_1
theorem e_ref04_Clash_r7 : type_of% f_ref04_Clash_r7.eq_1 := by_rfl f_ref04_Clash_r7.eq_1
theorem e_ref04_Clash_l8 : type_of% f_ref04_Clash_l8.eq_1 := by_rfl f_ref04_Clash_l8.eq_1
theorem e_ref04_Clash_r9 : type_of% f_ref04_Clash_r9.eq_1 := by_rfl f_ref04_Clash_r9.eq_1
theorem e_ref04_Clash : type_of% f_ref04_Clash.eq_1 := by_rfl f_ref04_Clash.eq_1
theorem ok_ref04_Clash : fnC Try.prog a_ref04_Clash Try.f33 = some f_ref04_Clash := by kernel_rfl

/-! 34 fumarole/trial.Relations -/
def f_trial_Relations_r0 : List Abs.Op := [
  ⟨some 1, none, false, .boxi (.t 0)⟩,
  ⟨some 2, none, false, .mv (.c .nils)⟩,
  ⟨some 3, none, false, .mv (.c (.int .i64 0))⟩]

def f_trial_Relations_r1 : List Abs.Op := [
  ⟨some 11, none, false, .ld true 3 (.t 1)⟩,
  ⟨some 12, none, false, .call false (.c (.fn i_trial_checked [] [])) [(.t 11)]⟩,
  ⟨some 10, none, false, .mv (.t 12)⟩,
  ⟨some 13, none, false, .ext (.t 10) 0⟩,
  ⟨some 14, none, false, .ext (.t 10) 1⟩,
  ⟨some 4, none, false, .alcv [] [(.int .i64 0), (.int .i64 0), .nils, (.int .i64 0), (.int .i64 0), (.int .i64 0), (.int .i64 0), (.int .i64 0), (.int .i64 0), (.int .i64 0), (.int .i64 0), (.int .i64 0), (.int .i64 0)]⟩,
  ⟨none, none, false, .stv 4 [] 13 4 (.t 13)⟩,
  ⟨some 5, none, false, .mv (.t 14)⟩]

def f_trial_Relations_r2 : List Abs.Op := [
  ⟨some 15, none, false, .mv (.t 5)⟩,
  ⟨some 16, none, false, .bin .neq (.t 15) (.c (.int .i64 0))⟩]

def f_trial_Relations_r3 : List Abs.Op := [
  ⟨some 17, none, false, .mv (.t 5)⟩,
  ⟨some 2, none, false, .mv (.c .nils)⟩,
  ⟨some 3, none, false, .mv (.t 17)⟩]

def f_trial_Relations_r4 : List Abs.Op := [
  ⟨some 6, none, false, .nilb 1⟩]

def f_trial_Relations_r5 : List Abs.Op := [
  ⟨some 18, none, false, .fadr 0 (.t 1)⟩,
  ⟨some 19, none, false, .ld false 1 (.t 18)⟩,
  ⟨some 20, none, false, .mv (.c (.int .i64 0))⟩]

def f_trial_Relations_r6 : List Abs.Op := [
  ⟨some 21, none, false, .bin .lss (.t 20) (.t 19)⟩]

def f_trial_Relations_r7 : List Abs.Op := [
  ⟨some 22, none, false, .mv (.t 20)⟩,
  ⟨some 7, none, false, .mv (.t 22)⟩]

def f_trial_Relations_r8 : List Abs.Op := [
  ⟨some 8, none, false, .nilb 1⟩]

def f_trial_Relations_r9 : List Abs.Op := [
  ⟨some 23, none, false, .fadr 0 (.t 1)⟩,
  ⟨some 24, none, false, .ld false 1 (.t 23)⟩,
  ⟨some 25, none, false, .mv (.c (.int .i64 0))⟩]

def f_trial_Relations_r10 : List Abs.Op := [
  ⟨some 26, none, false, .bin .lss (.t 25) (.t 24)⟩]

def f_trial_Relations_r11 : List Abs.Op := [
  ⟨some 27, none, false, .mv (.t 25)⟩,
  ⟨some 9, none, false, .mv (.t 27)⟩]

def f_trial_Relations_r12 : List Abs.Op := [
  ⟨some 28, none, false, .mv (.t 8)⟩,
  ⟨some 29, none, false, .ldv 4 true 13 4⟩,
  ⟨some 30, none, false, .mv (.t 7)⟩,
  ⟨some 31, none, false, .mv (.t 9)⟩,
  ⟨some 32, none, false, .call false (.c (.fn i_trial_parted_relation [] [])) [(.t 29), (.t 30), (.t 31)]⟩,
  ⟨some 33, none, false, .bsi 1 1 [(.int .u8 0)] [(0, 1, (.t 32))]⟩,
  ⟨some 34, none, false, .app 1 1 (.t 28) (.t 33)⟩,
  ⟨some 8, none, false, .mv (.t 34)⟩]

def f_trial_Relations_r13 : List Abs.Op := [
  ⟨some 35, none, false, .bin .add (.t 25) (.c (.int .i64 1))⟩,
  ⟨some 25, none, false, .mv (.t 35)⟩]

def f_trial_Relations_l14 : Abs.Cmd :=
  (.seq (.reg [1, 4, 6, 7, 8, 19, 20, 24, 25, 26] f_trial_Relations_r10) (.seq (.ite (.t 26) .nop (.exit 2)) (.seq (.blk 3 (.seq (.reg [1, 4, 6, 7, 8, 9, 19, 20, 24, 25] f_trial_Relations_r11) (.reg [1, 4, 6, 7, 8, 19, 20, 24, 25] f_trial_Relations_r12))) (.reg [1, 4, 6, 7, 8, 19, 20, 24, 25] f_trial_Relations_r13))))

def f_trial_Relations_r15 : List Abs.Op := [
  ⟨some 36, none, false, .mv (.t 6)⟩,
  ⟨some 37, none, false, .mv (.t 8)⟩,
  ⟨some 38, none, false, .bsi 1 1 [.nils] [(0, 1, (.t 37))]⟩,
  ⟨some 39, none, false, .app 1 24 (.t 36) (.t 38)⟩,
  ⟨some 6, none, false, .mv (.t 39)⟩]

def f_trial_Relations_r16 : List Abs.Op := [
  ⟨some 40, none, false, .bin .add (.t 20) (.c (.int .i64 1))⟩,
  ⟨some 20, none, false, .mv (.t 40)⟩]

def f_trial_Relations_l17 : Abs.Cmd :=
  (.seq (.reg [1, 4, 6, 19, 20, 21] f_trial_Relations_r6) (.seq (.ite (.t 21) .nop (.exit 0)) (.seq (.blk 1 (.seq (.reg [1, 4, 6, 7, 19, 20] f_trial_Relations_r7) (.seq (.reg [1, 4, 6, 7, 8, 19, 20] f_trial_Relations_r8) (.seq (.seq (.reg [1, 4, 6, 7, 8, 19, 20, 24, 25] f_trial_Relations_r9) (.blk 2 (.loop [1, 4, 6, 7, 8, 19, 20, 24, 25] false f_trial_Relations_l14))) (.reg [1, 4, 6, 19, 20] f_trial_Relations_r15))))) (.reg [1, 4, 6, 19, 20] f_trial_Relations_r16))))

def f_trial_Relations_r18 : List Abs.Op := [
  ⟨some 41, none, false, .mv (.t 6)⟩,
  ⟨some 2, none, false, .mv (.t 41)⟩,
  ⟨some 3, none, false, .mv (.c (.int .i64 0))⟩]

def a_trial_Relations : Ann := ⟨[(16, [2, 3]), (15, [1, 4, 6, 19, 20]), (14, [1, 4, 6, 19, 20]), (13, [1, 4, 6, 7, 8, 19, 20, 24, 25]), (12, [1, 4, 6, 7, 8, 19, 20, 24, 25]), (11, [1, 4, 6, 7, 8, 9, 19, 20, 24, 25]), (10, [1, 4, 6, 7, 8, 19, 20, 24, 25, 26]), (9, [1, 4, 6, 7, 8, 19, 20, 24, 25]), (8, [1, 4, 6, 7, 8, 19, 20]), (7, [1, 4, 6, 7, 19, 20]), (6, [1, 4, 6, 19, 20, 21]), (5, [1, 4, 6, 19, 20]), (4, [1, 4, 6]), (3, [2, 3]), (2, [1, 4, 5, 16]), (1, [1, 4, 5]), (0, [1])], [(2, [1, 4, 6, 7, 8, 19, 20, 24, 25]), (0, [1, 4, 6, 19, 20])], [0], [4, 6, 8], [4], [], [], [(0, [0])], [], []⟩
def f_trial_Relations : Abs.Fn := ⟨1, [.t 2, .t 3],
  (.seq (.seq (.frz [0]) (.reg [1] f_trial_Relations_r0)) (.seq (.reg [1, 4, 5] f_trial_Relations_r1) (.seq (.seq (.reg [1, 4, 5, 16] f_trial_Relations_r2) (.ite (.t 16) (.seq (.reg [2, 3] f_trial_Relations_r3) .ret) .nop)) (.seq (.reg [1, 4, 6] f_trial_Relations_r4) (.seq (.seq (.reg [1, 4, 6, 19, 20] f_trial_Relations_r5) (.blk 0 (.loop [1, 4, 6, 19, 20] true f_trial_Relations_l17))) (.seq (.reg [2, 3] f_trial_Relations_r18) .ret))))))⟩

theorem e_trial_Relations_r0 : type_of% f_trial_Relations_r0.eq_1 := by_rfl f_trial_Relations_r0.eq_1
theorem e_trial_Relations_r1 : type_of% f_trial_Relations_r1.eq_1 := by_rfl f_trial_Relations_r1.eq_1
theorem e_trial_Relations_r2 : type_of% f_trial_Relations_r2.eq_1 := by_rfl f_trial_Relations_r2.eq_1
theorem e_trial_Relations_r3 : type_of% f_trial_Relations_r3.eq_1 := by_rfl f_trial_Relations_r3.eq_1
theorem e_trial_Relations_r4 : type_of% f_trial_Relations_r4.eq_1 := by_rfl f_trial_Relations_r4.eq_1
theorem e_trial_Relations_r5 : type_of% f_trial_Relations_r5.eq_1 := by_rfl f_trial_Relations_r5.eq_1
theorem e_trial_Relations_r6 : type_of% f_trial_Relations_r6.eq_1 := by_rfl f_trial_Relations_r6.eq_1
theorem e_trial_Relations_r7 : type_of% f_trial_Relations_r7.eq_1 := by_rfl f_trial_Relations_r7.eq_1
theorem e_trial_Relations_r8 : type_of% f_trial_Relations_r8.eq_1 := by_rfl f_trial_Relations_r8.eq_1
theorem e_trial_Relations_r9 : type_of% f_trial_Relations_r9.eq_1 := by_rfl f_trial_Relations_r9.eq_1
theorem e_trial_Relations_r10 : type_of% f_trial_Relations_r10.eq_1 := by_rfl f_trial_Relations_r10.eq_1
theorem e_trial_Relations_r11 : type_of% f_trial_Relations_r11.eq_1 := by_rfl f_trial_Relations_r11.eq_1
theorem e_trial_Relations_r12 : type_of% f_trial_Relations_r12.eq_1 := by_rfl f_trial_Relations_r12.eq_1
theorem e_trial_Relations_r13 : type_of% f_trial_Relations_r13.eq_1 := by_rfl f_trial_Relations_r13.eq_1
theorem e_trial_Relations_l14 : type_of% f_trial_Relations_l14.eq_1 := by_rfl f_trial_Relations_l14.eq_1
theorem e_trial_Relations_r15 : type_of% f_trial_Relations_r15.eq_1 := by_rfl f_trial_Relations_r15.eq_1
theorem e_trial_Relations_r16 : type_of% f_trial_Relations_r16.eq_1 := by_rfl f_trial_Relations_r16.eq_1
theorem e_trial_Relations_l17 : type_of% f_trial_Relations_l17.eq_1 := by_rfl f_trial_Relations_l17.eq_1
theorem e_trial_Relations_r18 : type_of% f_trial_Relations_r18.eq_1 := by_rfl f_trial_Relations_r18.eq_1
theorem e_trial_Relations : type_of% f_trial_Relations.eq_1 := by_rfl f_trial_Relations.eq_1
theorem ok_trial_Relations : fnC Try.prog a_trial_Relations Try.f34 = some f_trial_Relations := by kernel_rfl

/-! 35 fumarole/fumarolelaw04.Survey -/
def f_law04_Survey_r0 : List Abs.Op := [
  ⟨some 1, none, false, .boxi (.t 0)⟩,
  ⟨some 2, none, false, .alcv [] [(.int .i64 0), (.int .i64 0), .nils]⟩]

def f_law04_Survey_r1 : List Abs.Op := [
  ⟨some 5, none, false, .fadr 0 (.t 1)⟩,
  ⟨some 6, none, false, .ld false 1 (.t 5)⟩,
  ⟨some 7, none, false, .fadr 1 (.t 1)⟩,
  ⟨some 8, none, false, .ld false 1 (.t 7)⟩,
  ⟨some 9, none, false, .bld [(.int .i64 0), (.int .i64 0), .nils] [(0, 1, (.t 6)), (1, 1, (.t 8))]⟩,
  ⟨some 3, none, false, .alcv [] [(.int .i64 0), (.int .i64 0), .nils]⟩,
  ⟨none, none, false, .stv 3 [] 3 3 (.t 9)⟩]

def f_law04_Survey_r2 : List Abs.Op := [
  ⟨some 4, none, false, .mv (.c (.int .i64 0))⟩]

def f_law04_Survey_r3 : List Abs.Op := [
  ⟨some 10, none, false, .mv (.t 4)⟩,
  ⟨some 11, none, false, .fadr 2 (.t 1)⟩,
  ⟨some 12, none, false, .ld false 1 (.t 11)⟩,
  ⟨some 13, none, false, .lenS (.t 12)⟩,
  ⟨some 14, none, false, .bin .lss (.t 10) (.t 13)⟩]

def f_law04_Survey_r4 : List Abs.Op := [
  ⟨some 17, none, true, .fadr 2 (.t 3)⟩,
  ⟨some 18, none, true, .ldv 3 false 1 17⟩,
  ⟨some 19, none, true, .fadr 2 (.t 1)⟩,
  ⟨some 20, none, true, .ld false 1 (.t 19)⟩,
  ⟨some 21, none, true, .mv (.t 4)⟩,
  ⟨some 22, none, true, .idxS 4 (.t 20) (.t 21)⟩,
  ⟨some 23, none, true, .fadr 0 (.t 22)⟩,
  ⟨some 24, none, true, .ld false 1 (.t 23)⟩,
  ⟨some 25, none, true, .fadr 2 (.t 1)⟩,
  ⟨some 26, none, true, .ld false 1 (.t 25)⟩,
  ⟨some 27, none, true, .mv (.t 4)⟩,
  ⟨some 28, none, true, .idxS 4 (.t 26) (.t 27)⟩,
  ⟨some 29, none, true, .fadr 1 (.t 28)⟩,
  ⟨some 30, none, true, .ld false 1 (.t 29)⟩,
  ⟨some 31, none, true, .fadr 2 (.t 1)⟩,
  ⟨some 32, none, true, .ld false 1 (.t 31)⟩,
  ⟨some 33, none, true, .mv (.t 4)⟩,
  ⟨some 34, none, true, .idxS 4 (.t 32) (.t 33)⟩,
  ⟨some 35, none, true, .fadr 2 (.t 34)⟩,
  ⟨some 36, none, true, .ld true 2 (.t 35)⟩,
  ⟨some 37, none, true, .call false (.c (.fn i_law04_Range [] [])) [(.t 36)]⟩,
  ⟨some 38, none, true, .bld [(.int .i64 0), (.int .i64 0), (.int .i64 0), (.int .i64 0)] [(0, 1, (.t 24)), (1, 1, (.t 30)), (2, 2, (.t 37))]⟩,
  ⟨some 39, none, true, .bsi 1 4 [(.int .i64 0), (.int .i64 0), (.int .i64 0), (.int .i64 0)] [(0, 4, (.t 38))]⟩,
  ⟨some 40, none, false, .app 4 32 (.t 18) (.t 39)⟩,
  ⟨some 41, none, false, .fadr 2 (.t 3)⟩,
  ⟨none, none, false, .stv 3 [] 1 41 (.t 40)⟩]

def f_law04_Survey_r5 : List Abs.Op := [
  ⟨some 15, none, false, .mv (.t 4)⟩,
  ⟨some 16, none, false, .bin .add (.t 15) (.c (.int .i64 1))⟩,
  ⟨some 4, none, false, .mv (.t 16)⟩]

def f_law04_Survey_l6 : Abs.Cmd :=
  (.seq (.seq (.reg [1, 2, 3, 4, 14] f_law04_Survey_r3) (.ite (.t 14) .nop (.exit 0))) (.seq (.blk 1 (.reg [1, 2, 3, 4] f_law04_Survey_r4)) (.reg [1, 2, 3, 4] f_law04_Survey_r5)))

def f_law04_Survey_r7 : List Abs.Op := [
  ⟨some 42, none, false, .ldv 3 true 3 3⟩,
  ⟨none, none, false, .stv 2 [] 3 2 (.t 42)⟩]

def a_law04_Survey : Ann := ⟨[(6, [2]), (4, [1, 2, 3, 4]), (5, [1, 2, 3, 4]), (3, [1, 2, 3, 4, 14]), (2, [1, 2, 3, 4]), (1, [1, 2, 3]), (0, [1, 2])], [(0, [1, 2, 3, 4])], [], [2, 3], [2, 3], [], [], [], [], []⟩
def f_law04_Survey : Abs.Fn := ⟨1, [.v 2 true 3],
  (.seq (.reg [1, 2] f_law04_Survey_r0) (.seq (.reg [1, 2, 3] f_law04_Survey_r1) (.seq (.seq (.reg [1, 2, 3, 4] f_law04_Survey_r2) (.blk 0 (.loop [1, 2, 3, 4] false f_law04_Survey_l6))) (.seq (.reg [2] f_law04_Survey_r7) .ret))))⟩

theorem e_law04_Survey_r0 : type_of% f_law04_Survey_r0.eq_1 := by_rfl f_law04_Survey_r0.eq_1
theorem e_law04_Survey_r1 : type_of% f_law04_Survey_r1.eq_1 := by_rfl f_law04_Survey_r1.eq_1
theorem e_law04_Survey_r2 : type_of% f_law04_Survey_r2.eq_1 := by_rfl f_law04_Survey_r2.eq_1
theorem e_law04_Survey_r3 : type_of% f_law04_Survey_r3.eq_1 := by_rfl f_law04_Survey_r3.eq_1
theorem e_law04_Survey_r4 : type_of% f_law04_Survey_r4.eq_1 := by_rfl f_law04_Survey_r4.eq_1
theorem e_law04_Survey_r5 : type_of% f_law04_Survey_r5.eq_1 := by_rfl f_law04_Survey_r5.eq_1
theorem e_law04_Survey_l6 : type_of% f_law04_Survey_l6.eq_1 := by_rfl f_law04_Survey_l6.eq_1
theorem e_law04_Survey_r7 : type_of% f_law04_Survey_r7.eq_1 := by_rfl f_law04_Survey_r7.eq_1
theorem e_law04_Survey : type_of% f_law04_Survey.eq_1 := by_rfl f_law04_Survey.eq_1
theorem ok_law04_Survey : fnC Try.prog a_law04_Survey Try.f35 = some f_law04_Survey := by kernel_rfl

/-! 36 fumarole/trial.Plan -/
def f_trial_Plan_r0 : List Abs.Op := [
  ⟨some 1, none, false, .boxi (.t 0)⟩,
  ⟨some 2, none, false, .mv (.c .nils)⟩,
  ⟨some 3, none, false, .mv (.c (.int .i64 0))⟩]

def f_trial_Plan_r1 : List Abs.Op := [
  ⟨some 12, none, false, .ld true 3 (.t 1)⟩,
  ⟨some 13, none, false, .call false (.c (.fn i_trial_checked [] [])) [(.t 12)]⟩,
  ⟨some 11, none, false, .mv (.t 13)⟩,
  ⟨some 14, none, false, .ext (.t 11) 0⟩,
  ⟨some 15, none, false, .ext (.t 11) 1⟩,
  ⟨some 4, none, false, .alc [] [(.int .i64 0), (.int .i64 0), .nils, (.int .i64 0), (.int .i64 0), (.int .i64 0), (.int .i64 0), (.int .i64 0), (.int .i64 0), (.int .i64 0), (.int .i64 0), (.int .i64 0), (.int .i64 0)]⟩,
  ⟨none, none, false, .st [] 13 (.t 4) (.t 14)⟩,
  ⟨some 5, none, false, .mv (.t 15)⟩]

def f_trial_Plan_r2 : List Abs.Op := [
  ⟨some 16, none, false, .mv (.t 5)⟩,
  ⟨some 17, none, false, .bin .neq (.t 16) (.c (.int .i64 0))⟩]

def f_trial_Plan_r3 : List Abs.Op := [
  ⟨some 18, none, false, .mv (.t 5)⟩,
  ⟨some 2, none, false, .mv (.c .nils)⟩,
  ⟨some 3, none, false, .mv (.t 18)⟩]

def f_trial_Plan_r4 : List Abs.Op := [
  ⟨some 6, none, false, .alc [(0, 1)] [.nils]⟩]

def f_trial_Plan_r5 : List Abs.Op := [
  ⟨some 19, none, false, .mkf i_trial_Plan_1 [] [(.t 6), (.t 4)]⟩,
  ⟨some 7, none, false, .alc [] [.nilf]⟩,
  ⟨none, none, false, .st [] 1 (.t 7) (.t 19)⟩]

def f_trial_Plan_r6 : List Abs.Op := [
  ⟨some 20, none, false, .mkf i_trial_Plan_2 [] [(.t 1), (.t 4), (.t 7)]⟩,
  ⟨some 8, none, false, .alc [] [.nilf]⟩,
  ⟨none, none, false, .st [] 1 (.t 8) (.t 20)⟩]

def f_trial_Plan_r7 : List Abs.Op := [
  ⟨some 9, none, false, .alc [] [.nilf]⟩]

def f_trial_Plan_r8 : List Abs.Op := [
  ⟨some 21, none, false, .mkf i_trial_Plan_3 [] [(.t 8), (.t 1), (.t 6), (.t 9)]⟩,
  ⟨none, none, false, .st [] 1 (.t 9) (.t 21)⟩]

def f_trial_Plan_r9 : List Abs.Op := [
  ⟨some 10, none, false, .mv (.c (.int .i64 0))⟩]

def f_trial_Plan_r10 : List Abs.Op := [
  ⟨some 22, none, false, .ld false 1 (.t 9)⟩,
  ⟨some 23, none, false, .mv (.t 10)⟩,
  ⟨some 24, none, false, .call false (.t 22) [(.c (.int .i64 0)), (.t 23)]⟩,
  ⟨some 25, none, false, .un .not (.t 24)⟩]

def f_trial_Plan_r11 : List Abs.Op := [
  ⟨some 26, none, false, .mv (.t 10)⟩,
  ⟨some 27, none, false, .bin .add (.t 26) (.c (.int .i64 1))⟩,
  ⟨some 10, none, false, .mv (.t 27)⟩]

def f_trial_Plan_l12 : Abs.Cmd :=
  (.seq (.seq (.reg [6, 9, 10, 25] f_trial_Plan_r10) (.ite (.t 25) .nop (.exit 0))) (.seq (.blk 1 .nop) (.reg [6, 9, 10] f_trial_Plan_r11)))

def f_trial_Plan_r13 : List Abs.Op := [
  ⟨some 28, none, false, .ld false 1 (.t 6)⟩,
  ⟨some 2, none, false, .mv (.t 28)⟩,
  ⟨some 3, none, false, .mv (.c (.int .i64 0))⟩]

def a_trial_Plan : Ann := ⟨[(12, [2, 3]), (11, [6, 9, 10]), (10, [6, 9, 10, 25]), (9, [6, 9, 10]), (8, [6, 9]), (7, [1, 6, 8, 9]), (6, [1, 6, 8]), (5, [1, 4, 6, 7]), (4, [1, 4, 6]), (3, [2, 3]), (2, [1, 4, 5, 17]), (1, [1, 4, 5]), (0, [1])], [(0, [6, 9, 10])], [], [4, 6, 7, 8, 9], [], [(4000, [(0, 1)])], [], [(0, [0])], [], []⟩
def f_trial_Plan : Abs.Fn := ⟨1, [.t 2, .t 3],
  (.seq (.seq (.frz [0]) (.reg [1] f_trial_Plan_r0)) (.seq (.reg [1, 4, 5] f_trial_Plan_r1) (.seq (.seq (.reg [1, 4, 5, 17] f_trial_Plan_r2) (.ite (.t 17) (.seq (.reg [2, 3] f_trial_Plan_r3) .ret) .nop)) (.seq (.reg [1, 4, 6] f_trial_Plan_r4) (.seq (.reg [1, 4, 6, 7] f_trial_Plan_r5) (.seq (.reg [1, 6, 8] f_trial_Plan_r6) (.seq (.reg [1, 6, 8, 9] f_trial_Plan_r7) (.seq (.reg [6, 9] f_trial_Plan_r8) (.seq (.seq (.reg [6, 9, 10] f_trial_Plan_r9) (.blk 0 (.loop [6, 9, 10] false f_trial_Plan_l12))) (.seq (.reg [2, 3] f_trial_Plan_r13) .ret))))))))))⟩

theorem e_trial_Plan_r0 : type_of% f_trial_Plan_r0.eq_1 := by_rfl f_trial_Plan_r0.eq_1
theorem e_trial_Plan_r1 : type_of% f_trial_Plan_r1.eq_1 := by_rfl f_trial_Plan_r1.eq_1
theorem e_trial_Plan_r2 : type_of% f_trial_Plan_r2.eq_1 := by_rfl f_trial_Plan_r2.eq_1
theorem e_trial_Plan_r3 : type_of% f_trial_Plan_r3.eq_1 := by_rfl f_trial_Plan_r3.eq_1
theorem e_trial_Plan_r4 : type_of% f_trial_Plan_r4.eq_1 := by_rfl f_trial_Plan_r4.eq_1
theorem e_trial_Plan_r5 : type_of% f_trial_Plan_r5.eq_1 := by_rfl f_trial_Plan_r5.eq_1
theorem e_trial_Plan_r6 : type_of% f_trial_Plan_r6.eq_1 := by_rfl f_trial_Plan_r6.eq_1
theorem e_trial_Plan_r7 : type_of% f_trial_Plan_r7.eq_1 := by_rfl f_trial_Plan_r7.eq_1
theorem e_trial_Plan_r8 : type_of% f_trial_Plan_r8.eq_1 := by_rfl f_trial_Plan_r8.eq_1
theorem e_trial_Plan_r9 : type_of% f_trial_Plan_r9.eq_1 := by_rfl f_trial_Plan_r9.eq_1
theorem e_trial_Plan_r10 : type_of% f_trial_Plan_r10.eq_1 := by_rfl f_trial_Plan_r10.eq_1
theorem e_trial_Plan_r11 : type_of% f_trial_Plan_r11.eq_1 := by_rfl f_trial_Plan_r11.eq_1
theorem e_trial_Plan_l12 : type_of% f_trial_Plan_l12.eq_1 := by_rfl f_trial_Plan_l12.eq_1
theorem e_trial_Plan_r13 : type_of% f_trial_Plan_r13.eq_1 := by_rfl f_trial_Plan_r13.eq_1
theorem e_trial_Plan : type_of% f_trial_Plan.eq_1 := by_rfl f_trial_Plan.eq_1
theorem ok_trial_Plan : fnC Try.prog a_trial_Plan Try.f36 = some f_trial_Plan := by kernel_rfl

/-! 37 fumarole/fumarolelaw04.ints -/
def f_law04_ints_r0 : List Abs.Op := [
  ⟨some 4, none, false, .mv (.c (.bool false))⟩]

def f_law04_ints_r1 : List Abs.Op := [
  ⟨some 6, none, false, .mv (.t 0)⟩,
  ⟨some 7, none, false, .lenS (.t 6)⟩,
  ⟨some 8, none, false, .mv (.t 1)⟩,
  ⟨some 9, none, false, .lenS (.t 8)⟩,
  ⟨some 10, none, false, .bin .neq (.t 7) (.t 9)⟩]

def f_law04_ints_r2 : List Abs.Op := [
  ⟨some 4, none, false, .mv (.c (.bool false))⟩]

def f_law04_ints_r3 : List Abs.Op := [
  ⟨some 5, none, false, .mv (.c (.int .i64 0))⟩]

def f_law04_ints_r4 : List Abs.Op := [
  ⟨some 11, none, false, .mv (.t 5)⟩,
  ⟨some 12, none, false, .mv (.t 0)⟩,
  ⟨some 13, none, false, .lenS (.t 12)⟩,
  ⟨some 14, none, false, .bin .lss (.t 11) (.t 13)⟩]

def f_law04_ints_r5 : List Abs.Op := [
  ⟨some 17, none, true, .mv (.t 0)⟩,
  ⟨some 18, none, true, .mv (.t 5)⟩,
  ⟨some 19, none, true, .idxS 1 (.t 17) (.t 18)⟩,
  ⟨some 20, none, true, .ld false 1 (.t 19)⟩,
  ⟨some 21, none, true, .mv (.t 1)⟩,
  ⟨some 22, none, true, .mv (.t 5)⟩,
  ⟨some 23, none, true, .idxS 1 (.t 21) (.t 22)⟩,
  ⟨some 24, none, true, .ld false 1 (.t 23)⟩,
  ⟨some 25, none, false, .bin .neq (.t 20) (.t 24)⟩]

def f_law04_ints_r6 : List Abs.Op := [
  ⟨some 4, none, false, .mv (.c (.bool false))⟩]

def f_law04_ints_r7 : List Abs.Op := [
  ⟨some 15, none, false, .mv (.t 5)⟩,
  ⟨some 16, none, false, .bin .add (.t 15) (.c (.int .i64 1))⟩,
  ⟨some 5, none, false, .mv (.t 16)⟩]

def f_law04_ints_l8 : Abs.Cmd :=
  (.seq (.seq (.reg [0, 1, 5, 14] f_law04_ints_r4) (.ite (.t 14) .nop (.exit 0))) (.seq (.blk 1 (.seq (.reg [0, 1, 5, 25] f_law04_ints_r5) (.ite (.t 25) (.seq (.reg [4] f_law04_ints_r6) .ret) .nop))) (.reg [0, 1, 5] f_law04_ints_r7)))

def f_law04_ints_r9 : List Abs.Op := [
  ⟨some 4, none, false, .mv (.c (.bool true))⟩]

def a_law04_ints : Ann := ⟨[(8, [4]), (5, [0, 1, 5]), (7, [4]), (6, [0, 1, 5, 25]), (4, [0, 1, 5, 14]), (3, [0, 1, 5]), (2, [4]), (1, [0, 1, 10]), (0, [0, 1])], [(0, [0, 1, 5])], [], [], [], [], [], [], [], []⟩
def f_law04_ints : Abs.Fn := ⟨2, [.t 4],
  (.seq (.reg [0, 1] f_law04_ints_r0) (.seq (.seq (.reg [0, 1, 10] f_law04_ints_r1) (.ite (.t 10) (.seq (.reg [4] f_law04_ints_r2) .ret) .nop)) (.seq (.seq (.reg [0, 1, 5] f_law04_ints_r3) (.blk 0 (.loop [0, 1, 5] false f_law04_ints_l8))) (.seq (.reg [4] f_law04_ints_r9) .ret))))⟩

theorem e_law04_ints_r0 : type_of% f_law04_ints_r0.eq_1 := by_rfl f_law04_ints_r0.eq_1
theorem e_law04_ints_r1 : type_of% f_law04_ints_r1.eq_1 := by_rfl f_law04_ints_r1.eq_1
theorem e_law04_ints_r2 : type_of% f_law04_ints_r2.eq_1 := by_rfl f_law04_ints_r2.eq_1
theorem e_law04_ints_r3 : type_of% f_law04_ints_r3.eq_1 := by_rfl f_law04_ints_r3.eq_1
theorem e_law04_ints_r4 : type_of% f_law04_ints_r4.eq_1 := by_rfl f_law04_ints_r4.eq_1
theorem e_law04_ints_r5 : type_of% f_law04_ints_r5.eq_1 := by_rfl f_law04_ints_r5.eq_1
theorem e_law04_ints_r6 : type_of% f_law04_ints_r6.eq_1 := by_rfl f_law04_ints_r6.eq_1
theorem e_law04_ints_r7 : type_of% f_law04_ints_r7.eq_1 := by_rfl f_law04_ints_r7.eq_1
theorem e_law04_ints_l8 : type_of% f_law04_ints_l8.eq_1 := by_rfl f_law04_ints_l8.eq_1
theorem e_law04_ints_r9 : type_of% f_law04_ints_r9.eq_1 := by_rfl f_law04_ints_r9.eq_1
theorem e_law04_ints : type_of% f_law04_ints.eq_1 := by_rfl f_law04_ints.eq_1
theorem ok_law04_ints : fnC Try.prog a_law04_ints Try.f37 = some f_law04_ints := by kernel_rfl

/-! 38 fumarole/fumaroleref04.Plan -/
def f_ref04_Plan_r0 : List Abs.Op := [
  ⟨some 1, none, false, .boxi (.t 0)⟩,
  ⟨some 2, none, false, .mv (.c .nils)⟩]

def f_ref04_Plan_r1 : List Abs.Op := [
  ⟨some 6, none, false, .fadr 0 (.t 1)⟩,
  ⟨some 7, none, false, .ld false 1 (.t 6)⟩,
  ⟨some 8, none, false, .cvt .u64 (.t 7)⟩,
  ⟨some 9, none, false, .bin .shl (.c (.int .i64 1)) (.t 8)⟩,
  ⟨some 10, none, false, .bin .sub (.t 9) (.c (.int .i64 1))⟩,
  ⟨some 11, none, false, .call false (.c (.fn i_ref04_Members [] [])) [(.t 10)]⟩,
  ⟨some 3, none, false, .mv (.t 11)⟩]

def f_ref04_Plan_r2 : List Abs.Op := [
  ⟨some 4, none, false, .mv (.c (.int .i64 0))⟩]

def f_ref04_Plan_r3 : List Abs.Op := [
  ⟨some 12, none, false, .mv (.t 4)⟩,
  ⟨some 13, none, false, .fadr 0 (.t 1)⟩,
  ⟨some 14, none, false, .ld false 1 (.t 13)⟩,
  ⟨some 15, none, false, .cvt .u64 (.t 14)⟩,
  ⟨some 16, none, false, .bin .shl (.c (.int .i64 1)) (.t 15)⟩,
  ⟨some 17, none, false, .bin .lss (.t 12) (.t 16)⟩]

def f_ref04_Plan_r4 : List Abs.Op := [
  ⟨some 20, none, false, .mv (.t 4)⟩,
  ⟨some 21, none, false, .call false (.c (.fn i_ref04_Members [] [])) [(.t 20)]⟩,
  ⟨some 5, none, false, .mv (.t 21)⟩]

def f_ref04_Plan_r5 : List Abs.Op := [
  ⟨some 22, none, false, .mv (.t 5)⟩,
  ⟨some 23, none, false, .mv (.t 3)⟩,
  ⟨some 24, none, false, .call false (.c (.fn i_ref04_before [] [])) [(.t 22), (.t 23)]⟩,
  ⟨some 25, none, false, .mv (.t 24)⟩,
  ⟨some 26, some (25, true), false, .ld true 3 (.t 1)⟩,
  ⟨some 27, some (25, true), false, .mv (.t 4)⟩,
  ⟨some 28, some (25, true), false, .call false (.c (.fn i_ref04_Plans [] [])) [(.t 26), (.t 27)]⟩,
  ⟨some 29, none, false, .pick (.t 25) (.t 28) (.c (.bool false))⟩]

def f_ref04_Plan_r6 : List Abs.Op := [
  ⟨some 30, none, false, .mv (.t 5)⟩,
  ⟨some 3, none, false, .mv (.t 30)⟩]

def f_ref04_Plan_r7 : List Abs.Op := [
  ⟨some 18, none, false, .mv (.t 4)⟩,
  ⟨some 19, none, false, .bin .add (.t 18) (.c (.int .i64 1))⟩,
  ⟨some 4, none, false, .mv (.t 19)⟩]

def f_ref04_Plan_l8 : Abs.Cmd :=
  (.seq (.seq (.reg [1, 3, 4, 17] f_ref04_Plan_r3) (.ite (.t 17) .nop (.exit 0))) (.seq (.blk 1 (.seq (.reg [1, 3, 4, 5] f_ref04_Plan_r4) (.seq (.reg [1, 3, 4, 5, 29] f_ref04_Plan_r5) (.ite (.t 29) (.reg [1, 3, 4] f_ref04_Plan_r6) .nop)))) (.reg [1, 3, 4] f_ref04_Plan_r7)))

def f_ref04_Plan_r9 : List Abs.Op := [
  ⟨some 31, none, false, .mv (.t 3)⟩,
  ⟨some 2, none, false, .mv (.t 31)⟩]

def a_ref04_Plan : Ann := ⟨[(8, [2]), (4, [1, 3, 4]), (7, [1, 3, 4]), (6, [1, 3, 4, 5, 29]), (5, [1, 3, 4, 5]), (3, [1, 3, 4, 17]), (2, [1, 3, 4]), (1, [1, 3]), (0, [1])], [(0, [1, 3, 4])], [], [], [], [], [], [], [], []⟩
def f_ref04_Plan : Abs.Fn := ⟨1, [.t 2],
  (.seq (.reg [1] f_ref04_Plan_r0) (.seq (.reg [1, 3] f_ref04_Plan_r1) (.seq (.seq (.reg [1, 3, 4] f_ref04_Plan_r2) (.blk 0 (.loop [1, 3, 4] false f_ref04_Plan_l8))) (.seq (.reg [2] f_ref04_Plan_r9) .ret))))⟩

theorem e_ref04_Plan_r0 : type_of% f_ref04_Plan_r0.eq_1 := by_rfl f_ref04_Plan_r0.eq_1
theorem e_ref04_Plan_r1 : type_of% f_ref04_Plan_r1.eq_1 := by_rfl f_ref04_Plan_r1.eq_1
theorem e_ref04_Plan_r2 : type_of% f_ref04_Plan_r2.eq_1 := by_rfl f_ref04_Plan_r2.eq_1
theorem e_ref04_Plan_r3 : type_of% f_ref04_Plan_r3.eq_1 := by_rfl f_ref04_Plan_r3.eq_1
theorem e_ref04_Plan_r4 : type_of% f_ref04_Plan_r4.eq_1 := by_rfl f_ref04_Plan_r4.eq_1
theorem e_ref04_Plan_r5 : type_of% f_ref04_Plan_r5.eq_1 := by_rfl f_ref04_Plan_r5.eq_1
theorem e_ref04_Plan_r6 : type_of% f_ref04_Plan_r6.eq_1 := by_rfl f_ref04_Plan_r6.eq_1
theorem e_ref04_Plan_r7 : type_of% f_ref04_Plan_r7.eq_1 := by_rfl f_ref04_Plan_r7.eq_1
theorem e_ref04_Plan_l8 : type_of% f_ref04_Plan_l8.eq_1 := by_rfl f_ref04_Plan_l8.eq_1
theorem e_ref04_Plan_r9 : type_of% f_ref04_Plan_r9.eq_1 := by_rfl f_ref04_Plan_r9.eq_1
theorem e_ref04_Plan : type_of% f_ref04_Plan.eq_1 := by_rfl f_ref04_Plan.eq_1
theorem ok_ref04_Plan : fnC Try.prog a_ref04_Plan Try.f38 = some f_ref04_Plan := by kernel_rfl

/-! 39 fumarole/fumaroleref04.Relation -/
def f_ref04_Relation_r0 : List Abs.Op := [
  ⟨some 3, none, false, .boxi (.t 0)⟩,
  ⟨some 6, none, false, .mv (.c (.int .u8 0))⟩]

def f_ref04_Relation_r1 : List Abs.Op := [
  ⟨some 12, none, false, .ld true 3 (.t 3)⟩,
  ⟨some 13, none, false, .call false (.c (.fn i_ref04_Groups [] [])) [(.t 12)]⟩,
  ⟨some 7, none, false, .mv (.t 13)⟩]

def f_ref04_Relation_r2 : List Abs.Op := [
  ⟨some 14, none, true, .mv (.t 7)⟩,
  ⟨some 15, none, true, .mv (.t 1)⟩,
  ⟨some 16, none, true, .idxS 1 (.t 14) (.t 15)⟩,
  ⟨some 17, none, true, .ld false 1 (.t 16)⟩,
  ⟨some 18, none, true, .mv (.t 7)⟩,
  ⟨some 19, none, true, .mv (.t 2)⟩,
  ⟨some 20, none, true, .idxS 1 (.t 18) (.t 19)⟩,
  ⟨some 21, none, true, .ld false 1 (.t 20)⟩,
  ⟨some 22, none, false, .bin .eql (.t 17) (.t 21)⟩]

def f_ref04_Relation_r3 : List Abs.Op := [
  ⟨some 6, none, false, .mv (.c (.int .u8 2))⟩]

def f_ref04_Relation_r4 : List Abs.Op := [
  ⟨some 8, none, false, .mv (.c (.int .i64 0))⟩]

def f_ref04_Relation_r5 : List Abs.Op := [
  ⟨some 23, none, false, .mv (.t 8)⟩,
  ⟨some 24, none, false, .fadr 2 (.t 3)⟩,
  ⟨some 25, none, false, .ld false 1 (.t 24)⟩,
  ⟨some 26, none, false, .lenS (.t 25)⟩,
  ⟨some 27, none, false, .bin .lss (.t 23) (.t 26)⟩]

def f_ref04_Relation_r6 : List Abs.Op := [
  ⟨some 30, none, false, .fadr 2 (.t 3)⟩,
  ⟨some 31, none, false, .ld false 1 (.t 30)⟩,
  ⟨some 32, none, false, .mv (.t 8)⟩,
  ⟨some 33, none, false, .idxS 4 (.t 31) (.t 32)⟩,
  ⟨some 34, none, false, .ld true 4 (.t 33)⟩,
  ⟨some 9, none, false, .alcv [] [(.int .i64 0), (.int .i64 0), (.int .i64 0), (.int .i64 0)]⟩,
  ⟨none, none, false, .stv 9 [] 4 9 (.t 34)⟩]

def f_ref04_Relation_r7 : List Abs.Op := [
  ⟨some 35, none, true, .mv (.t 7)⟩,
  ⟨some 36, none, true, .fadr 0 (.t 9)⟩,
  ⟨some 37, none, true, .ldv 9 false 1 36⟩,
  ⟨some 38, none, true, .idxS 1 (.t 35) (.t 37)⟩,
  ⟨some 39, none, true, .ld false 1 (.t 38)⟩,
  ⟨some 40, none, true, .mv (.t 7)⟩,
  ⟨some 41, none, true, .fadr 1 (.t 9)⟩,
  ⟨some 42, none, true, .ldv 9 false 1 41⟩,
  ⟨some 43, none, true, .idxS 1 (.t 40) (.t 42)⟩,
  ⟨some 44, none, true, .ld false 1 (.t 43)⟩,
  ⟨some 10, none, true, .mv (.t 39)⟩,
  ⟨some 11, none, false, .mv (.t 44)⟩]

def f_ref04_Relation_r8 : List Abs.Op := [
  ⟨some 45, none, false, .ld true 3 (.t 3)⟩,
  ⟨some 46, none, false, .ldv 9 true 4 9⟩,
  ⟨some 47, none, false, .call false (.c (.fn i_ref04_Against [] [])) [(.t 45), (.t 46)]⟩,
  ⟨some 48, none, false, .mv (.t 47)⟩,
  ⟨some 49, some (48, true), false, .mv (.t 10)⟩,
  ⟨some 50, some (48, true), false, .mv (.t 7)⟩,
  ⟨some 51, some (48, true), false, .mv (.t 1)⟩,
  ⟨some 52, some (48, true), false, .idxS 1 (.t 50) (.t 51)⟩,
  ⟨some 53, some (48, true), false, .ld false 1 (.t 52)⟩,
  ⟨some 54, some (48, true), false, .bin .eql (.t 49) (.t 53)⟩,
  ⟨some 55, some (48, true), false, .mv (.t 54)⟩,
  ⟨some 56, some (55, true), false, .mv (.t 11)⟩,
  ⟨some 57, some (55, true), false, .mv (.t 7)⟩,
  ⟨some 58, some (55, true), false, .mv (.t 2)⟩,
  ⟨some 59, some (55, true), false, .idxS 1 (.t 57) (.t 58)⟩,
  ⟨some 60, some (55, true), false, .ld false 1 (.t 59)⟩,
  ⟨some 61, some (55, true), false, .bin .eql (.t 56) (.t 60)⟩,
  ⟨some 62, some (48, true), false, .pick (.t 55) (.t 61) (.c (.bool false))⟩,
  ⟨some 63, some (48, true), false, .mv (.t 62)⟩,
  ⟨some 64, some (63, false), false, .mv (.t 10)⟩,
  ⟨some 65, some (63, false), false, .mv (.t 7)⟩,
  ⟨some 66, some (63, false), false, .mv (.t 2)⟩,
  ⟨some 67, some (63, false), false, .idxS 1 (.t 65) (.t 66)⟩,
  ⟨some 68, some (63, false), false, .ld false 1 (.t 67)⟩,
  ⟨some 69, some (63, false), false, .bin .eql (.t 64) (.t 68)⟩,
  ⟨some 70, some (63, false), false, .mv (.t 69)⟩,
  ⟨some 71, some (70, true), false, .mv (.t 11)⟩,
  ⟨some 72, some (70, true), false, .mv (.t 7)⟩,
  ⟨some 73, some (70, true), false, .mv (.t 1)⟩,
  ⟨some 74, some (70, true), false, .idxS 1 (.t 72) (.t 73)⟩,
  ⟨some 75, some (70, true), false, .ld false 1 (.t 74)⟩,
  ⟨some 76, some (70, true), false, .bin .eql (.t 71) (.t 75)⟩,
  ⟨some 77, some (63, false), false, .pick (.t 70) (.t 76) (.c (.bool false))⟩,
  ⟨some 78, some (48, true), false, .pick (.t 63) (.c (.bool true)) (.t 77)⟩,
  ⟨some 79, none, false, .pick (.t 48) (.t 78) (.c (.bool false))⟩]

def f_ref04_Relation_r9 : List Abs.Op := [
  ⟨some 6, none, false, .mv (.c (.int .u8 0))⟩]

def f_ref04_Relation_r10 : List Abs.Op := [
  ⟨some 28, none, false, .mv (.t 8)⟩,
  ⟨some 29, none, false, .bin .add (.t 28) (.c (.int .i64 1))⟩,
  ⟨some 8, none, false, .mv (.t 29)⟩]

def f_ref04_Relation_l11 : Abs.Cmd :=
  (.seq (.seq (.reg [1, 2, 3, 7, 8, 27] f_ref04_Relation_r5) (.ite (.t 27) .nop (.exit 0))) (.seq (.blk 1 (.seq (.reg [1, 2, 3, 7, 8, 9] f_ref04_Relation_r6) (.seq (.reg [1, 2, 3, 7, 8, 9, 10, 11] f_ref04_Relation_r7) (.seq (.reg [1, 2, 3, 7, 8, 79] f_ref04_Relation_r8) (.ite (.t 79) (.seq (.reg [6] f_ref04_Relation_r9) .ret) .nop))))) (.reg [1, 2, 3, 7, 8] f_ref04_Relation_r10)))

def f_ref04_Relation_r12 : List Abs.Op := [
  ⟨some 6, none, false, .mv (.c (.int .u8 1))⟩]

def a_ref04_Relation : Ann := ⟨[(11, [6]), (6, [1, 2, 3, 7, 8]), (10, [6]), (9, [1, 2, 3, 7, 8, 79]), (8, [1, 2, 3, 7, 8, 9, 10, 11]), (7, [1, 2, 3, 7, 8, 9]), (5, [1, 2, 3, 7, 8, 27]), (4, [1, 2, 3, 7, 8]), (3, [6]), (2, [1, 2, 3, 7, 22]), (1, [1, 2, 3, 7]), (0, [1, 2, 3])], [(0, [1, 2, 3, 7, 8])], [], [9], [9], [], [], [], [], []⟩
def f_ref04_Relation : Abs.Fn := ⟨3, [.t 6],
  (.seq (.reg [1, 2, 3] f_ref04_Relation_r0) (.seq (.reg [1, 2, 3, 7] f_ref04_Relation_r1) (.seq (.seq (.reg [1, 2, 3, 7, 22] f_ref04_Relation_r2) (.ite (.t 22) (.seq (.reg [6] f_ref04_Relation_r3) .ret) .nop)) (.seq (.seq (.reg [1, 2, 3, 7, 8] f_ref04_Relation_r4) (.blk 0 (.loop [1, 2, 3, 7, 8] false f_ref04_Relation_l11))) (.seq (.reg [6] f_ref04_Relation_r12) .ret)))))⟩

theorem e_ref04_Relation_r0 : type_of% f_ref04_Relation_r0.eq_1 := by_rfl f_ref04_Relation_r0.eq_1
theorem e_ref04_Relation_r1 : type_of% f_ref04_Relation_r1.eq_1 := by_rfl f_ref04_Relation_r1.eq_1
theorem e_ref04_Relation_r2 : type_of% f_ref04_Relation_r2.eq_1 := by_rfl f_ref04_Relation_r2.eq_1
theorem e_ref04_Relation_r3 : type_of% f_ref04_Relation_r3.eq_1 := by_rfl f_ref04_Relation_r3.eq_1
theorem e_ref04_Relation_r4 : type_of% f_ref04_Relation_r4.eq_1 := by_rfl f_ref04_Relation_r4.eq_1
theorem e_ref04_Relation_r5 : type_of% f_ref04_Relation_r5.eq_1 := by_rfl f_ref04_Relation_r5.eq_1
theorem e_ref04_Relation_r6 : type_of% f_ref04_Relation_r6.eq_1 := by_rfl f_ref04_Relation_r6.eq_1
theorem e_ref04_Relation_r7 : type_of% f_ref04_Relation_r7.eq_1 := by_rfl f_ref04_Relation_r7.eq_1
theorem e_ref04_Relation_r8 : type_of% f_ref04_Relation_r8.eq_1 := by_rfl f_ref04_Relation_r8.eq_1
theorem e_ref04_Relation_r9 : type_of% f_ref04_Relation_r9.eq_1 := by_rfl f_ref04_Relation_r9.eq_1
theorem e_ref04_Relation_r10 : type_of% f_ref04_Relation_r10.eq_1 := by_rfl f_ref04_Relation_r10.eq_1
theorem e_ref04_Relation_l11 : type_of% f_ref04_Relation_l11.eq_1 := by_rfl f_ref04_Relation_l11.eq_1
theorem e_ref04_Relation_r12 : type_of% f_ref04_Relation_r12.eq_1 := by_rfl f_ref04_Relation_r12.eq_1
theorem e_ref04_Relation : type_of% f_ref04_Relation.eq_1 := by_rfl f_ref04_Relation.eq_1
theorem ok_ref04_Relation : fnC Try.prog a_ref04_Relation Try.f39 = some f_ref04_Relation := by kernel_rfl

/-! 48 fumarole/trial.Fits -/
def f_trial_Fits_r0 : List Abs.Op := [
  ⟨some 2, none, false, .boxi (.t 0)⟩,
  ⟨some 4, none, false, .mv (.c (.bool false))⟩]

def f_trial_Fits_r1 : List Abs.Op := [
  ⟨some 5, none, false, .ld true 3 (.t 2)⟩,
  ⟨some 6, none, false, .call false (.c (.fn i_trial_CheckSurvey [] [])) [(.t 5)]⟩,
  ⟨some 7, none, false, .bin .eql (.t 6) (.c (.int .i64 0))⟩,
  ⟨some 8, none, false, .mv (.t 7)⟩,
  ⟨some 9, some (8, true), false, .mv (.t 1)⟩,
  ⟨some 10, some (8, true), false, .lenS (.t 9)⟩,
  ⟨some 11, some (8, true), false, .fadr 0 (.t 2)⟩,
  ⟨some 12, some (8, true), false, .ld false 1 (.t 11)⟩,
  ⟨some 13, some (8, true), false, .bin .eql (.t 10) (.t 12)⟩,
  ⟨some 14, none, false, .pick (.t 8) (.t 13) (.c (.bool false))⟩,
  ⟨some 15, none, false, .mv (.t 14)⟩,
  ⟨some 16, some (15, true), false, .ld true 3 (.t 2)⟩,
  ⟨some 17, some (15, true), false, .mv (.t 1)⟩,
  ⟨some 18, some (15, true), false, .call false (.c (.fn i_trial_Survey_fits [] [])) [(.t 16), (.t 17)]⟩,
  ⟨some 19, none, false, .pick (.t 15) (.t 18) (.c (.bool false))⟩,
  ⟨some 4, none, false, .mv (.t 19)⟩]

def a_trial_Fits : Ann := ⟨[(1, [4]), (0, [1, 2])], [], [], [], [], [], [], [(0, [0])], [], []⟩
def f_trial_Fits : Abs.Fn := ⟨2, [.t 4],
  (.seq (.seq (.frz [0]) (.reg [1, 2] f_trial_Fits_r0)) (.seq (.reg [4] f_trial_Fits_r1) .ret))⟩

theorem e_trial_Fits_r0 : type_of% f_trial_Fits_r0.eq_1 := by_rfl f_trial_Fits_r0.eq_1
theorem e_trial_Fits_r1 : type_of% f_trial_Fits_r1.eq_1 := by_rfl f_trial_Fits_r1.eq_1
theorem e_trial_Fits : type_of% f_trial_Fits.eq_1 := by_rfl f_trial_Fits.eq_1
theorem ok_trial_Fits : fnC Try.prog a_trial_Fits Try.f48 = some f_trial_Fits := by kernel_rfl

end Go.Proofs.Ytcjjdaifpboaaaa
