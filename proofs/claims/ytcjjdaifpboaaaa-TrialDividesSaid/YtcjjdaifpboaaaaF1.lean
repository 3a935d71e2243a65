/- The code of functions of the program, in the small instruction set; each is what the translation makes of it. -/
import Derived.Test.YtcjjdaifpboaaaaIds
set_option linter.unusedVariables false
set_option maxRecDepth 100000
namespace Go.Proofs.Ytcjjdaifpboaaaa
open Go Go.Abs
/-! 61 fumarole/trial.CheckSurvey -/
def f_trial_CheckSurvey_r0 : List Abs.Op := [
  ⟨some 1, none, false, .boxi (.t 0)⟩,
  ⟨some 2, none, false, .mv (.c (.int .i64 0))⟩]

def f_trial_CheckSurvey_r1 : List Abs.Op := [
  ⟨some 5, none, false, .fadr 2 (.t 1)⟩,
  ⟨some 6, none, false, .ld false 1 (.t 5)⟩,
  ⟨some 7, none, false, .lenS (.t 6)⟩,
  ⟨some 8, none, false, .bin .gtr (.t 7) (.c (.int .i64 60))⟩]

def f_trial_CheckSurvey_r2 : List Abs.Op := [
  ⟨some 2, none, false, .mv (.c (.int .i64 3))⟩]

def f_trial_CheckSurvey_r3 : List Abs.Op := [
  ⟨some 9, none, false, .fadr 0 (.t 1)⟩,
  ⟨some 10, none, false, .ld false 1 (.t 9)⟩,
  ⟨some 11, none, false, .call false (.c (.fn i_trial_within [] [])) [(.t 10), (.c (.int .i64 1)), (.c (.int .i64 10))]⟩,
  ⟨some 12, none, false, .un .not (.t 11)⟩,
  ⟨some 13, none, false, .mv (.t 12)⟩,
  ⟨some 14, some (13, false), false, .fadr 1 (.t 1)⟩,
  ⟨some 15, some (13, false), false, .ld false 1 (.t 14)⟩,
  ⟨some 16, some (13, false), false, .call false (.c (.fn i_trial_within [] [])) [(.t 15), (.c (.int .i64 (-2000000000))), (.c (.int .i64 2000000000))]⟩,
  ⟨some 17, some (13, false), false, .un .not (.t 16)⟩,
  ⟨some 18, none, false, .pick (.t 13) (.c (.bool true)) (.t 17)⟩]

def f_trial_CheckSurvey_r4 : List Abs.Op := [
  ⟨some 2, none, false, .mv (.c (.int .i64 1))⟩]

def f_trial_CheckSurvey_r5 : List Abs.Op := [
  ⟨some 19, none, false, .fadr 2 (.t 1)⟩,
  ⟨some 20, none, false, .ld false 1 (.t 19)⟩,
  ⟨some 21, none, false, .lenS (.t 20)⟩,
  ⟨some 22, none, false, .mv (.c (.int .i64 0))⟩]

def f_trial_CheckSurvey_r6 : List Abs.Op := [
  ⟨some 23, none, false, .bin .lss (.t 22) (.t 21)⟩]

def f_trial_CheckSurvey_r7 : List Abs.Op := [
  ⟨some 24, none, false, .idxS 4 (.t 20) (.t 22)⟩,
  ⟨some 25, none, false, .ld true 4 (.t 24)⟩,
  ⟨some 4, none, false, .alcv [] [(.int .i64 0), (.int .i64 0), (.int .i64 0), (.int .i64 0)]⟩,
  ⟨none, none, false, .stv 4 [] 4 4 (.t 25)⟩]

def f_trial_CheckSurvey_r8 : List Abs.Op := [
  ⟨some 26, none, false, .fadr 0 (.t 4)⟩,
  ⟨some 27, none, false, .ldv 4 false 1 26⟩,
  ⟨some 28, none, false, .fadr 0 (.t 1)⟩,
  ⟨some 29, none, false, .ld false 1 (.t 28)⟩,
  ⟨some 30, none, false, .bin .sub (.t 29) (.c (.int .i64 1))⟩,
  ⟨some 31, none, false, .call false (.c (.fn i_trial_within [] [])) [(.t 27), (.c (.int .i64 0)), (.t 30)]⟩,
  ⟨some 32, none, false, .un .not (.t 31)⟩,
  ⟨some 33, none, false, .mv (.t 32)⟩,
  ⟨some 34, some (33, false), false, .fadr 1 (.t 4)⟩,
  ⟨some 35, some (33, false), false, .ldv 4 false 1 34⟩,
  ⟨some 36, some (33, false), false, .fadr 0 (.t 1)⟩,
  ⟨some 37, some (33, false), false, .ld false 1 (.t 36)⟩,
  ⟨some 38, some (33, false), false, .bin .sub (.t 37) (.c (.int .i64 1))⟩,
  ⟨some 39, some (33, false), false, .call false (.c (.fn i_trial_within [] [])) [(.t 35), (.c (.int .i64 0)), (.t 38)]⟩,
  ⟨some 40, some (33, false), false, .un .not (.t 39)⟩,
  ⟨some 41, none, false, .pick (.t 33) (.c (.bool true)) (.t 40)⟩,
  ⟨some 42, none, false, .mv (.t 41)⟩,
  ⟨some 43, some (42, false), false, .fadr 0 (.t 4)⟩,
  ⟨some 44, some (42, false), false, .ldv 4 false 1 43⟩,
  ⟨some 45, some (42, false), false, .fadr 1 (.t 4)⟩,
  ⟨some 46, some (42, false), false, .ldv 4 false 1 45⟩,
  ⟨some 47, some (42, false), false, .bin .eql (.t 44) (.t 46)⟩,
  ⟨some 48, none, false, .pick (.t 42) (.c (.bool true)) (.t 47)⟩,
  ⟨some 49, none, false, .mv (.t 48)⟩,
  ⟨some 50, some (49, false), false, .fadr 2 (.t 4)⟩,
  ⟨some 51, some (49, false), false, .ldv 4 true 2 50⟩,
  ⟨some 52, some (49, false), false, .call false (.c (.fn i_trial_Range_drops [] [])) [(.t 51)]⟩,
  ⟨some 53, some (49, false), false, .un .not (.t 52)⟩,
  ⟨some 54, none, false, .pick (.t 49) (.c (.bool true)) (.t 53)⟩]

def f_trial_CheckSurvey_r9 : List Abs.Op := [
  ⟨some 2, none, false, .mv (.c (.int .i64 1))⟩]

def f_trial_CheckSurvey_r10 : List Abs.Op := [
  ⟨some 55, none, false, .bin .add (.t 22) (.c (.int .i64 1))⟩,
  ⟨some 22, none, false, .mv (.t 55)⟩]

def f_trial_CheckSurvey_l11 : Abs.Cmd :=
  (.seq (.reg [1, 20, 21, 22, 23] f_trial_CheckSurvey_r6) (.seq (.ite (.t 23) .nop (.exit 0)) (.seq (.blk 1 (.seq (.reg [1, 4, 20, 21, 22] f_trial_CheckSurvey_r7) (.seq (.reg [1, 20, 21, 22, 54] f_trial_CheckSurvey_r8) (.ite (.t 54) (.seq (.reg [2] f_trial_CheckSurvey_r9) .ret) .nop)))) (.reg [1, 20, 21, 22] f_trial_CheckSurvey_r10))))

def f_trial_CheckSurvey_r12 : List Abs.Op := [
  ⟨some 2, none, false, .mv (.c (.int .i64 0))⟩]

def a_trial_CheckSurvey : Ann := ⟨[(11, [2]), (10, [1, 20, 21, 22]), (9, [2]), (8, [1, 20, 21, 22, 54]), (7, [1, 4, 20, 21, 22]), (6, [1, 20, 21, 22, 23]), (5, [1, 20, 21, 22]), (4, [2]), (3, [1, 18]), (2, [2]), (1, [1, 8]), (0, [1])], [(0, [1, 20, 21, 22])], [], [4], [4], [], [], [], [], []⟩
def f_trial_CheckSurvey : Abs.Fn := ⟨1, [.t 2],
  (.seq (.reg [1] f_trial_CheckSurvey_r0) (.seq (.seq (.reg [1, 8] f_trial_CheckSurvey_r1) (.ite (.t 8) (.seq (.reg [2] f_trial_CheckSurvey_r2) .ret) .nop)) (.seq (.seq (.reg [1, 18] f_trial_CheckSurvey_r3) (.ite (.t 18) (.seq (.reg [2] f_trial_CheckSurvey_r4) .ret) .nop)) (.seq (.seq (.reg [1, 20, 21, 22] f_trial_CheckSurvey_r5) (.blk 0 (.loop [1, 20, 21, 22] false f_trial_CheckSurvey_l11))) (.seq (.reg [2] f_trial_CheckSurvey_r12) .ret)))))⟩

theorem e_trial_CheckSurvey_r0 : type_of% f_trial_CheckSurvey_r0.eq_1 := by_rfl f_trial_CheckSurvey_r0.eq_1
theorem e_trial_CheckSurvey_r1 : type_of% f_trial_CheckSurvey_r1.eq_1 := by_rfl f_trial_CheckSurvey_r1.eq_1
theorem e_trial_CheckSurvey_r2 : type_of% f_trial_CheckSurvey_r2.eq_1 := by_rfl f_trial_CheckSurvey_r2.eq_1
theorem e_trial_CheckSurvey_r3 : type_of% f_trial_CheckSurvey_r3.eq_1 := by_rfl f_trial_CheckSurvey_r3.eq_1
theorem e_trial_CheckSurvey_r4 : type_of% f_trial_CheckSurvey_r4.eq_1 := by_rfl f_trial_CheckSurvey_r4.eq_1
theorem e_trial_CheckSurvey_r5 : type_of% f_trial_CheckSurvey_r5.eq_1 := by_rfl f_trial_CheckSurvey_r5.eq_1
theorem e_trial_CheckSurvey_r6 : type_of% f_trial_CheckSurvey_r6.eq_1 := by_rfl f_trial_CheckSurvey_r6.eq_1
theorem e_trial_CheckSurvey_r7 : type_of% f_trial_CheckSurvey_r7.eq_1 := by_rfl f_trial_CheckSurvey_r7.eq_1
theorem e_trial_CheckSurvey_r8 : type_of% f_trial_CheckSurvey_r8.eq_1 := by_rfl f_trial_CheckSurvey_r8.eq_1
theorem e_trial_CheckSurvey_r9 : type_of% f_trial_CheckSurvey_r9.eq_1 := by_rfl f_trial_CheckSurvey_r9.eq_1
theorem e_trial_CheckSurvey_r10 : type_of% f_trial_CheckSurvey_r10.eq_1 := by_rfl f_trial_CheckSurvey_r10.eq_1
theorem e_trial_CheckSurvey_l11 : type_of% f_trial_CheckSurvey_l11.eq_1 := by_rfl f_trial_CheckSurvey_l11.eq_1
theorem e_trial_CheckSurvey_r12 : type_of% f_trial_CheckSurvey_r12.eq_1 := by_rfl f_trial_CheckSurvey_r12.eq_1
theorem e_trial_CheckSurvey : type_of% f_trial_CheckSurvey.eq_1 := by_rfl f_trial_CheckSurvey.eq_1
theorem ok_trial_CheckSurvey : fnC Try.prog a_trial_CheckSurvey Try.f61 = some f_trial_CheckSurvey := by kernel_rfl

/-! 62 fumarole/fumaroleref04.Groups -/
def f_ref04_Groups_r0 : List Abs.Op := [
  ⟨some 1, none, false, .boxi (.t 0)⟩,
  ⟨some 2, none, false, .mv (.c .nils)⟩]

def f_ref04_Groups_r1 : List Abs.Op := [
  ⟨some 3, none, false, .nilb 1⟩]

def f_ref04_Groups_r2 : List Abs.Op := [
  ⟨some 4, none, false, .mv (.c (.int .i64 0))⟩]

def f_ref04_Groups_r3 : List Abs.Op := [
  ⟨some 9, none, false, .mv (.t 4)⟩,
  ⟨some 10, none, false, .fadr 0 (.t 1)⟩,
  ⟨some 11, none, false, .ld false 1 (.t 10)⟩,
  ⟨some 12, none, false, .bin .lss (.t 9) (.t 11)⟩]

def f_ref04_Groups_r4 : List Abs.Op := [
  ⟨some 15, none, false, .mv (.t 3)⟩,
  ⟨some 16, none, false, .mv (.t 4)⟩,
  ⟨some 17, none, false, .bsi 1 1 [(.int .i64 0)] [(0, 1, (.t 16))]⟩,
  ⟨some 18, none, false, .app 1 8 (.t 15) (.t 17)⟩,
  ⟨some 3, none, false, .mv (.t 18)⟩]

def f_ref04_Groups_r5 : List Abs.Op := [
  ⟨some 13, none, false, .mv (.t 4)⟩,
  ⟨some 14, none, false, .bin .add (.t 13) (.c (.int .i64 1))⟩,
  ⟨some 4, none, false, .mv (.t 14)⟩]

def f_ref04_Groups_l6 : Abs.Cmd :=
  (.seq (.seq (.reg [1, 3, 4, 12] f_ref04_Groups_r3) (.ite (.t 12) .nop (.exit 0))) (.seq (.blk 1 (.reg [1, 3, 4] f_ref04_Groups_r4)) (.reg [1, 3, 4] f_ref04_Groups_r5)))

def f_ref04_Groups_r7 : List Abs.Op := [
  ⟨some 5, none, false, .mv (.c (.int .i64 0))⟩]

def f_ref04_Groups_r8 : List Abs.Op := [
  ⟨some 19, none, false, .mv (.t 5)⟩,
  ⟨some 20, none, false, .fadr 0 (.t 1)⟩,
  ⟨some 21, none, false, .ld false 1 (.t 20)⟩,
  ⟨some 22, none, false, .bin .lss (.t 19) (.t 21)⟩]

def f_ref04_Groups_r9 : List Abs.Op := [
  ⟨some 6, none, false, .mv (.c (.int .i64 0))⟩]

def f_ref04_Groups_r10 : List Abs.Op := [
  ⟨some 25, none, false, .mv (.t 6)⟩,
  ⟨some 26, none, false, .fadr 2 (.t 1)⟩,
  ⟨some 27, none, false, .ld false 1 (.t 26)⟩,
  ⟨some 28, none, false, .lenS (.t 27)⟩,
  ⟨some 29, none, false, .bin .lss (.t 25) (.t 28)⟩]

def f_ref04_Groups_r11 : List Abs.Op := [
  ⟨some 32, none, false, .fadr 2 (.t 1)⟩,
  ⟨some 33, none, false, .ld false 1 (.t 32)⟩,
  ⟨some 34, none, false, .mv (.t 6)⟩,
  ⟨some 35, none, false, .idxS 4 (.t 33) (.t 34)⟩,
  ⟨some 36, none, false, .ld true 4 (.t 35)⟩,
  ⟨some 7, none, false, .alcv [] [(.int .i64 0), (.int .i64 0), (.int .i64 0), (.int .i64 0)]⟩,
  ⟨none, none, false, .stv 7 [] 4 7 (.t 36)⟩]

def f_ref04_Groups_r12 : List Abs.Op := [
  ⟨some 37, none, false, .ld true 3 (.t 1)⟩,
  ⟨some 38, none, false, .ldv 7 true 4 7⟩,
  ⟨some 39, none, false, .call false (.c (.fn i_ref04_Sure [] [])) [(.t 37), (.t 38)]⟩]

def f_ref04_Groups_r13 : List Abs.Op := [
  ⟨some 40, none, true, .mv (.t 3)⟩,
  ⟨some 41, none, true, .fadr 0 (.t 7)⟩,
  ⟨some 42, none, true, .ldv 7 false 1 41⟩,
  ⟨some 43, none, true, .idxS 1 (.t 40) (.t 42)⟩,
  ⟨some 44, none, true, .ld false 1 (.t 43)⟩,
  ⟨some 45, none, true, .mv (.t 3)⟩,
  ⟨some 46, none, true, .fadr 1 (.t 7)⟩,
  ⟨some 47, none, true, .ldv 7 false 1 46⟩,
  ⟨some 48, none, true, .idxS 1 (.t 45) (.t 47)⟩,
  ⟨some 49, none, true, .ld false 1 (.t 48)⟩,
  ⟨some 50, none, false, .mn (.t 44) (.t 49)⟩,
  ⟨some 8, none, false, .mv (.t 50)⟩]

def f_ref04_Groups_r14 : List Abs.Op := [
  ⟨some 51, none, true, .mv (.t 3)⟩,
  ⟨some 52, none, true, .fadr 0 (.t 7)⟩,
  ⟨some 53, none, true, .ldv 7 false 1 52⟩,
  ⟨some 54, none, true, .mv (.t 3)⟩,
  ⟨some 55, none, true, .fadr 1 (.t 7)⟩,
  ⟨some 56, none, true, .ldv 7 false 1 55⟩,
  ⟨some 57, none, true, .mv (.t 8)⟩,
  ⟨some 58, none, true, .mv (.t 8)⟩,
  ⟨some 59, none, true, .idxS 1 (.t 51) (.t 53)⟩,
  ⟨none, none, true, .st [] 1 (.t 59) (.t 57)⟩,
  ⟨some 60, none, false, .idxS 1 (.t 54) (.t 56)⟩,
  ⟨none, none, false, .st [] 1 (.t 60) (.t 58)⟩]

def f_ref04_Groups_r15 : List Abs.Op := [
  ⟨some 30, none, false, .mv (.t 6)⟩,
  ⟨some 31, none, false, .bin .add (.t 30) (.c (.int .i64 1))⟩,
  ⟨some 6, none, false, .mv (.t 31)⟩]

def f_ref04_Groups_l16 : Abs.Cmd :=
  (.seq (.seq (.reg [1, 3, 5, 6, 29] f_ref04_Groups_r10) (.ite (.t 29) .nop (.exit 4))) (.seq (.blk 5 (.seq (.reg [1, 3, 5, 6, 7] f_ref04_Groups_r11) (.seq (.reg [1, 3, 5, 6, 7, 39] f_ref04_Groups_r12) (.ite (.t 39) (.seq (.reg [1, 3, 5, 6, 7, 8] f_ref04_Groups_r13) (.reg [1, 3, 5, 6] f_ref04_Groups_r14)) .nop)))) (.reg [1, 3, 5, 6] f_ref04_Groups_r15)))

def f_ref04_Groups_r17 : List Abs.Op := [
  ⟨some 23, none, false, .mv (.t 5)⟩,
  ⟨some 24, none, false, .bin .add (.t 23) (.c (.int .i64 1))⟩,
  ⟨some 5, none, false, .mv (.t 24)⟩]

def f_ref04_Groups_l18 : Abs.Cmd :=
  (.seq (.seq (.reg [1, 3, 5, 22] f_ref04_Groups_r8) (.ite (.t 22) .nop (.exit 2))) (.seq (.blk 3 (.seq (.reg [1, 3, 5, 6] f_ref04_Groups_r9) (.blk 4 (.loop [1, 3, 5, 6] false f_ref04_Groups_l16)))) (.reg [1, 3, 5] f_ref04_Groups_r17)))

def f_ref04_Groups_r19 : List Abs.Op := [
  ⟨some 61, none, false, .mv (.t 3)⟩,
  ⟨some 2, none, false, .mv (.t 61)⟩]

def a_ref04_Groups : Ann := ⟨[(16, [2]), (8, [1, 3, 5]), (11, [1, 3, 5, 6]), (15, [1, 3, 5, 6]), (14, [1, 3, 5, 6, 7, 8]), (13, [1, 3, 5, 6, 7, 39]), (12, [1, 3, 5, 6, 7]), (10, [1, 3, 5, 6, 29]), (9, [1, 3, 5, 6]), (7, [1, 3, 5, 22]), (6, [1, 3, 5]), (4, [1, 3, 4]), (5, [1, 3, 4]), (3, [1, 3, 4, 12]), (2, [1, 3, 4]), (1, [1, 3]), (0, [1])], [(4, [1, 3, 5, 6]), (2, [1, 3, 5]), (0, [1, 3, 4])], [], [3, 7], [7], [], [], [], [], []⟩
def f_ref04_Groups : Abs.Fn := ⟨1, [.t 2],
  (.seq (.reg [1] f_ref04_Groups_r0) (.seq (.reg [1, 3] f_ref04_Groups_r1) (.seq (.seq (.reg [1, 3, 4] f_ref04_Groups_r2) (.blk 0 (.loop [1, 3, 4] false f_ref04_Groups_l6))) (.seq (.seq (.reg [1, 3, 5] f_ref04_Groups_r7) (.blk 2 (.loop [1, 3, 5] false f_ref04_Groups_l18))) (.seq (.reg [2] f_ref04_Groups_r19) .ret)))))⟩

theorem e_ref04_Groups_r0 : type_of% f_ref04_Groups_r0.eq_1 := by_rfl f_ref04_Groups_r0.eq_1
theorem e_ref04_Groups_r1 : type_of% f_ref04_Groups_r1.eq_1 := by_rfl f_ref04_Groups_r1.eq_1
theorem e_ref04_Groups_r2 : type_of% f_ref04_Groups_r2.eq_1 := by_rfl f_ref04_Groups_r2.eq_1
theorem e_ref04_Groups_r3 : type_of% f_ref04_Groups_r3.eq_1 := by_rfl f_ref04_Groups_r3.eq_1
theorem e_ref04_Groups_r4 : type_of% f_ref04_Groups_r4.eq_1 := by_rfl f_ref04_Groups_r4.eq_1
theorem e_ref04_Groups_r5 : type_of% f_ref04_Groups_r5.eq_1 := by_rfl f_ref04_Groups_r5.eq_1
theorem e_ref04_Groups_l6 : type_of% f_ref04_Groups_l6.eq_1 := by_rfl f_ref04_Groups_l6.eq_1
theorem e_ref04_Groups_r7 : type_of% f_ref04_Groups_r7.eq_1 := by_rfl f_ref04_Groups_r7.eq_1
theorem e_ref04_Groups_r8 : type_of% f_ref04_Groups_r8.eq_1 := by_rfl f_ref04_Groups_r8.eq_1
theorem e_ref04_Groups_r9 : type_of% f_ref04_Groups_r9.eq_1 := by_rfl f_ref04_Groups_r9.eq_1
theorem e_ref04_Groups_r10 : type_of% f_ref04_Groups_r10.eq_1 := by_rfl f_ref04_Groups_r10.eq_1
theorem e_ref04_Groups_r11 : type_of% f_ref04_Groups_r11.eq_1 := by_rfl f_ref04_Groups_r11.eq_1
theorem e_ref04_Groups_r12 : type_of% f_ref04_Groups_r12.eq_1 := by_rfl f_ref04_Groups_r12.eq_1
theorem e_ref04_Groups_r13 : type_of% f_ref04_Groups_r13.eq_1 := by_rfl f_ref04_Groups_r13.eq_1
theorem e_ref04_Groups_r14 : type_of% f_ref04_Groups_r14.eq_1 := by_rfl f_ref04_Groups_r14.eq_1
theorem e_ref04_Groups_r15 : type_of% f_ref04_Groups_r15.eq_1 := by_rfl f_ref04_Groups_r15.eq_1
theorem e_ref04_Groups_l16 : type_of% f_ref04_Groups_l16.eq_1 := by_rfl f_ref04_Groups_l16.eq_1
theorem e_ref04_Groups_r17 : type_of% f_ref04_Groups_r17.eq_1 := by_rfl f_ref04_Groups_r17.eq_1
theorem e_ref04_Groups_l18 : type_of% f_ref04_Groups_l18.eq_1 := by_rfl f_ref04_Groups_l18.eq_1
theorem e_ref04_Groups_r19 : type_of% f_ref04_Groups_r19.eq_1 := by_rfl f_ref04_Groups_r19.eq_1
theorem e_ref04_Groups : type_of% f_ref04_Groups.eq_1 := by_rfl f_ref04_Groups.eq_1
theorem ok_ref04_Groups : fnC Try.prog a_ref04_Groups Try.f62 = some f_ref04_Groups := by kernel_rfl

/-! 63 fumarole/fumaroleref04.Way -/
def f_ref04_Way_r0 : List Abs.Op := [
  ⟨some 3, none, false, .boxi (.t 0)⟩,
  ⟨some 6, none, false, .mv (.c .nils)⟩]

def f_ref04_Way_r1 : List Abs.Op := [
  ⟨some 11, none, false, .ld true 3 (.t 3)⟩,
  ⟨some 12, none, false, .mv (.t 2)⟩,
  ⟨some 13, none, false, .call false (.c (.fn i_ref04_Far [] [])) [(.t 11), (.t 12)]⟩,
  ⟨some 7, none, false, .mv (.t 13)⟩]

def f_ref04_Way_r2 : List Abs.Op := [
  ⟨some 14, none, false, .mv (.t 1)⟩,
  ⟨some 15, none, false, .bsm 1 1 [(.int .i64 0)] [(0, 1, (.t 14))]⟩,
  ⟨some 8, none, false, .mv (.t 15)⟩]

def f_ref04_Way_r3 : List Abs.Op := [
  ⟨some 16, none, false, .mv (.t 1)⟩,
  ⟨some 9, none, false, .mv (.t 16)⟩]

def f_ref04_Way_r4 : List Abs.Op := [
  ⟨some 17, none, false, .mv (.t 9)⟩,
  ⟨some 18, none, false, .mv (.t 2)⟩,
  ⟨some 19, none, false, .bin .neq (.t 17) (.t 18)⟩]

def f_ref04_Way_r5 : List Abs.Op := [
  ⟨some 10, none, false, .mv (.c (.int .i64 0))⟩]

def f_ref04_Way_r6 : List Abs.Op := [
  ⟨some 20, none, true, .ld true 3 (.t 3)⟩,
  ⟨some 21, none, true, .mv (.t 9)⟩,
  ⟨some 22, none, true, .mv (.t 10)⟩,
  ⟨some 23, none, true, .call false (.c (.fn i_ref04_beside [] [])) [(.t 20), (.t 21), (.t 22)]⟩,
  ⟨some 24, none, true, .un .not (.t 23)⟩,
  ⟨some 25, none, true, .mv (.t 24)⟩,
  ⟨some 26, some (25, false), true, .mv (.t 7)⟩,
  ⟨some 27, some (25, false), true, .mv (.t 10)⟩,
  ⟨some 28, some (25, false), true, .idxS 1 (.t 26) (.t 27)⟩,
  ⟨some 29, some (25, false), true, .ld false 1 (.t 28)⟩,
  ⟨some 30, some (25, false), true, .mv (.t 7)⟩,
  ⟨some 31, some (25, false), true, .mv (.t 9)⟩,
  ⟨some 32, some (25, false), true, .idxS 1 (.t 30) (.t 31)⟩,
  ⟨some 33, some (25, false), true, .ld false 1 (.t 32)⟩,
  ⟨some 34, some (25, false), true, .bin .sub (.t 33) (.c (.int .i64 1))⟩,
  ⟨some 35, some (25, false), false, .bin .neq (.t 29) (.t 34)⟩,
  ⟨some 36, none, false, .pick (.t 25) (.c (.bool true)) (.t 35)⟩]

def f_ref04_Way_r7 : List Abs.Op := [
  ⟨some 37, none, false, .mv (.t 10)⟩,
  ⟨some 38, none, false, .bin .add (.t 37) (.c (.int .i64 1))⟩,
  ⟨some 10, none, false, .mv (.t 38)⟩]

def f_ref04_Way_l8 : Abs.Cmd :=
  (.seq (.seq (.reg [2, 3, 7, 8, 9, 10, 36] f_ref04_Way_r6) (.ite (.t 36) .nop (.exit 2))) (.blk 3 (.reg [2, 3, 7, 8, 9, 10] f_ref04_Way_r7)))

def f_ref04_Way_r9 : List Abs.Op := [
  ⟨some 39, none, false, .mv (.t 8)⟩,
  ⟨some 40, none, false, .mv (.t 10)⟩,
  ⟨some 41, none, false, .bsi 1 1 [(.int .i64 0)] [(0, 1, (.t 40))]⟩,
  ⟨some 42, none, false, .app 1 8 (.t 39) (.t 41)⟩,
  ⟨some 8, none, false, .mv (.t 42)⟩]

def f_ref04_Way_r10 : List Abs.Op := [
  ⟨some 43, none, false, .mv (.t 10)⟩,
  ⟨some 9, none, false, .mv (.t 43)⟩]

def f_ref04_Way_l11 : Abs.Cmd :=
  (.seq (.seq (.reg [2, 3, 7, 8, 9, 19] f_ref04_Way_r4) (.ite (.t 19) .nop (.exit 0))) (.blk 1 (.seq (.reg [2, 3, 7, 8, 9, 10] f_ref04_Way_r5) (.seq (.blk 2 (.loop [2, 3, 7, 8, 9, 10] false f_ref04_Way_l8)) (.seq (.reg [2, 3, 7, 8, 10] f_ref04_Way_r9) (.reg [2, 3, 7, 8, 9] f_ref04_Way_r10))))))

def f_ref04_Way_r12 : List Abs.Op := [
  ⟨some 44, none, false, .mv (.t 8)⟩,
  ⟨some 6, none, false, .mv (.t 44)⟩]

def a_ref04_Way : Ann := ⟨[(10, [6]), (9, [2, 3, 7, 8, 9]), (8, [2, 3, 7, 8, 10]), (7, [2, 3, 7, 8, 9, 10]), (6, [2, 3, 7, 8, 9, 10, 36]), (5, [2, 3, 7, 8, 9, 10]), (4, [2, 3, 7, 8, 9, 19]), (3, [2, 3, 7, 8, 9]), (2, [1, 2, 3, 7, 8]), (1, [1, 2, 3, 7]), (0, [1, 2, 3])], [(2, [2, 3, 7, 8, 9, 10]), (0, [2, 3, 7, 8, 9])], [], [15], [], [], [], [], [], []⟩
def f_ref04_Way : Abs.Fn := ⟨3, [.t 6],
  (.seq (.reg [1, 2, 3] f_ref04_Way_r0) (.seq (.reg [1, 2, 3, 7] f_ref04_Way_r1) (.seq (.reg [1, 2, 3, 7, 8] f_ref04_Way_r2) (.seq (.seq (.reg [2, 3, 7, 8, 9] f_ref04_Way_r3) (.blk 0 (.loop [2, 3, 7, 8, 9] false f_ref04_Way_l11))) (.seq (.reg [6] f_ref04_Way_r12) .ret)))))⟩

theorem e_ref04_Way_r0 : type_of% f_ref04_Way_r0.eq_1 := by_rfl f_ref04_Way_r0.eq_1
theorem e_ref04_Way_r1 : type_of% f_ref04_Way_r1.eq_1 := by_rfl f_ref04_Way_r1.eq_1
theorem e_ref04_Way_r2 : type_of% f_ref04_Way_r2.eq_1 := by_rfl f_ref04_Way_r2.eq_1
theorem e_ref04_Way_r3 : type_of% f_ref04_Way_r3.eq_1 := by_rfl f_ref04_Way_r3.eq_1
theorem e_ref04_Way_r4 : type_of% f_ref04_Way_r4.eq_1 := by_rfl f_ref04_Way_r4.eq_1
theorem e_ref04_Way_r5 : type_of% f_ref04_Way_r5.eq_1 := by_rfl f_ref04_Way_r5.eq_1
theorem e_ref04_Way_r6 : type_of% f_ref04_Way_r6.eq_1 := by_rfl f_ref04_Way_r6.eq_1
theorem e_ref04_Way_r7 : type_of% f_ref04_Way_r7.eq_1 := by_rfl f_ref04_Way_r7.eq_1
theorem e_ref04_Way_l8 : type_of% f_ref04_Way_l8.eq_1 := by_rfl f_ref04_Way_l8.eq_1
theorem e_ref04_Way_r9 : type_of% f_ref04_Way_r9.eq_1 := by_rfl f_ref04_Way_r9.eq_1
theorem e_ref04_Way_r10 : type_of% f_ref04_Way_r10.eq_1 := by_rfl f_ref04_Way_r10.eq_1
theorem e_ref04_Way_l11 : type_of% f_ref04_Way_l11.eq_1 := by_rfl f_ref04_Way_l11.eq_1
theorem e_ref04_Way_r12 : type_of% f_ref04_Way_r12.eq_1 := by_rfl f_ref04_Way_r12.eq_1
theorem e_ref04_Way : type_of% f_ref04_Way.eq_1 := by_rfl f_ref04_Way.eq_1
theorem ok_ref04_Way : fnC Try.prog a_ref04_Way Try.f63 = some f_ref04_Way := by kernel_rfl

/-! 64 fumarole/fumarolelaw04.well -/
def f_law04_well_r0 : List Abs.Op := [
  ⟨some 0, none, false, .alcv [] [(.int .i64 0), (.int .i64 0), (.int .i64 0), (.int .i64 0), (.int .i64 0), (.int .i64 0), .nils]⟩]

def f_law04_well_r1 : List Abs.Op := [
  ⟨some 1, none, false, .bld [(.int .i64 0), (.int .i64 0)] [(1, 1, (.c (.int .i64 10)))]⟩,
  ⟨some 2, none, false, .bld [(.int .i64 0), (.int .i64 0)] [(0, 1, (.c (.int .i64 1))), (1, 1, (.c (.int .i64 3)))]⟩,
  ⟨some 3, none, false, .bld [(.int .i64 0), (.int .i64 0)] [(1, 1, (.c (.int .i64 1)))]⟩,
  ⟨some 4, none, false, .bld [(.int .i64 0), (.int .i64 0)] [(0, 1, (.c (.int .i64 2))), (1, 1, (.c (.int .i64 3)))]⟩,
  ⟨some 5, none, false, .bld [(.int .i64 0), (.int .i64 0), (.int .i64 0)] [(1, 2, (.t 4))]⟩,
  ⟨some 6, none, false, .bld [(.int .i64 0), (.int .i64 0)] [(0, 1, (.c (.int .i64 22))), (1, 1, (.c (.int .i64 33)))]⟩,
  ⟨some 7, none, false, .bld [(.int .i64 0), (.int .i64 0), (.int .i64 0)] [(0, 1, (.c (.int .i64 10))), (1, 2, (.t 6))]⟩,
  ⟨some 8, none, false, .bsm 2 3 [(.int .i64 0), (.int .i64 0), (.int .i64 0), (.int .i64 0), (.int .i64 0), (.int .i64 0)] [(0, 3, (.t 5)), (3, 3, (.t 7))]⟩,
  ⟨some 9, none, false, .bld [(.int .i64 0), (.int .i64 0), (.int .i64 0), (.int .i64 0), (.int .i64 0), (.int .i64 0), .nils] [(0, 2, (.t 1)), (2, 2, (.t 2)), (4, 2, (.t 3)), (6, 1, (.t 8))]⟩,
  ⟨none, none, false, .stv 0 [] 7 0 (.t 9)⟩]

def a_law04_well : Ann := ⟨[(1, [0]), (0, [0])], [], [], [0, 8], [0], [], [], [], [], []⟩
def f_law04_well : Abs.Fn := ⟨0, [.v 0 true 7],
  (.seq (.reg [0] f_law04_well_r0) (.seq (.reg [0] f_law04_well_r1) .ret))⟩

theorem e_law04_well_r0 : type_of% f_law04_well_r0.eq_1 := by_rfl f_law04_well_r0.eq_1
theorem e_law04_well_r1 : type_of% f_law04_well_r1.eq_1 := by_rfl f_law04_well_r1.eq_1
theorem e_law04_well : type_of% f_law04_well.eq_1 := by_rfl f_law04_well.eq_1
theorem ok_law04_well : fnC Try.prog a_law04_well Try.f64 = some f_law04_well := by kernel_rfl

/-! 65 fumarole/fumarolelaw04.wells -/
def f_law04_wells_r0 : List Abs.Op := [
  ⟨some 0, none, false, .alcv [] [(.int .i64 0), (.int .i64 0), .nils]⟩]

def f_law04_wells_r1 : List Abs.Op := [
  ⟨some 1, none, false, .bld [(.int .i64 0), (.int .i64 0)] [(0, 1, (.c (.int .i64 6))), (1, 1, (.c (.int .i64 9)))]⟩,
  ⟨some 2, none, false, .bld [(.int .i64 0), (.int .i64 0), (.int .i64 0), (.int .i64 0)] [(0, 1, (.c (.int .i64 0))), (1, 1, (.c (.int .i64 1))), (2, 2, (.t 1))]⟩,
  ⟨some 3, none, false, .bld [(.int .i64 0), (.int .i64 0)] [(1, 1, (.c (.int .i64 3)))]⟩,
  ⟨some 4, none, false, .bld [(.int .i64 0), (.int .i64 0), (.int .i64 0), (.int .i64 0)] [(0, 1, (.c (.int .i64 1))), (1, 1, (.c (.int .i64 2))), (2, 2, (.t 3))]⟩,
  ⟨some 5, none, false, .bld [(.int .i64 0), (.int .i64 0)] [(0, 1, (.c (.int .i64 4))), (1, 1, (.c (.int .i64 7)))]⟩,
  ⟨some 6, none, false, .bld [(.int .i64 0), (.int .i64 0), (.int .i64 0), (.int .i64 0)] [(0, 1, (.c (.int .i64 2))), (1, 1, (.c (.int .i64 3))), (2, 2, (.t 5))]⟩,
  ⟨some 7, none, false, .bsm 3 4 [(.int .i64 0), (.int .i64 0), (.int .i64 0), (.int .i64 0), (.int .i64 0), (.int .i64 0), (.int .i64 0), (.int .i64 0), (.int .i64 0), (.int .i64 0), (.int .i64 0), (.int .i64 0)] [(0, 4, (.t 2)), (4, 4, (.t 4)), (8, 4, (.t 6))]⟩,
  ⟨some 8, none, false, .bld [(.int .i64 0), (.int .i64 0), .nils] [(0, 1, (.c (.int .i64 4))), (1, 1, (.c (.int .i64 5))), (2, 1, (.t 7))]⟩,
  ⟨none, none, false, .stv 0 [] 3 0 (.t 8)⟩]

def a_law04_wells : Ann := ⟨[(1, [0]), (0, [0])], [], [], [0, 7], [0], [], [], [], [], []⟩
def f_law04_wells : Abs.Fn := ⟨0, [.v 0 true 3],
  (.seq (.reg [0] f_law04_wells_r0) (.seq (.reg [0] f_law04_wells_r1) .ret))⟩

theorem e_law04_wells_r0 : type_of% f_law04_wells_r0.eq_1 := by_rfl f_law04_wells_r0.eq_1
theorem e_law04_wells_r1 : type_of% f_law04_wells_r1.eq_1 := by_rfl f_law04_wells_r1.eq_1
theorem e_law04_wells : type_of% f_law04_wells.eq_1 := by_rfl f_law04_wells.eq_1
theorem ok_law04_wells : fnC Try.prog a_law04_wells Try.f65 = some f_law04_wells := by kernel_rfl

/-! 66 (fumarole/trial.Range).right -/
def f_trial_Range_right_r0 : List Abs.Op := [
  ⟨some 3, none, false, .boxi (.t 0)⟩,
  ⟨some 6, none, false, .mv (.c (.bool false))⟩]

def f_trial_Range_right_r1 : List Abs.Op := [
  ⟨some 7, none, false, .mv (.t 1)⟩,
  ⟨some 8, none, false, .fadr 0 (.t 3)⟩,
  ⟨some 9, none, false, .ld false 1 (.t 8)⟩,
  ⟨some 10, none, false, .bin .leq (.t 7) (.t 9)⟩,
  ⟨some 11, none, false, .mv (.t 10)⟩,
  ⟨some 12, some (11, true), false, .fadr 0 (.t 3)⟩,
  ⟨some 13, some (11, true), false, .ld false 1 (.t 12)⟩,
  ⟨some 14, some (11, true), false, .fadr 1 (.t 3)⟩,
  ⟨some 15, some (11, true), false, .ld false 1 (.t 14)⟩,
  ⟨some 16, some (11, true), false, .bin .leq (.t 13) (.t 15)⟩,
  ⟨some 17, none, false, .pick (.t 11) (.t 16) (.c (.bool false))⟩,
  ⟨some 18, none, false, .mv (.t 17)⟩,
  ⟨some 19, some (18, true), false, .fadr 1 (.t 3)⟩,
  ⟨some 20, some (18, true), false, .ld false 1 (.t 19)⟩,
  ⟨some 21, some (18, true), false, .mv (.t 2)⟩,
  ⟨some 22, some (18, true), false, .bin .leq (.t 20) (.t 21)⟩,
  ⟨some 23, none, false, .pick (.t 18) (.t 22) (.c (.bool false))⟩,
  ⟨some 6, none, false, .mv (.t 23)⟩]

def a_trial_Range_right : Ann := ⟨[(1, [6]), (0, [1, 2, 3])], [], [], [], [], [], [], [], [], []⟩
def f_trial_Range_right : Abs.Fn := ⟨3, [.t 6],
  (.seq (.reg [1, 2, 3] f_trial_Range_right_r0) (.seq (.reg [6] f_trial_Range_right_r1) .ret))⟩

theorem e_trial_Range_right_r0 : type_of% f_trial_Range_right_r0.eq_1 := by_rfl f_trial_Range_right_r0.eq_1
theorem e_trial_Range_right_r1 : type_of% f_trial_Range_right_r1.eq_1 := by_rfl f_trial_Range_right_r1.eq_1
theorem e_trial_Range_right : type_of% f_trial_Range_right.eq_1 := by_rfl f_trial_Range_right.eq_1
theorem ok_trial_Range_right : fnC Try.prog a_trial_Range_right Try.f66 = some f_trial_Range_right := by kernel_rfl

/-! 67 fumarole/trial.within -/
def f_trial_within_r0 : List Abs.Op := [
  ⟨some 6, none, false, .mv (.c (.bool false))⟩]

def f_trial_within_r1 : List Abs.Op := [
  ⟨some 7, none, false, .mv (.t 1)⟩,
  ⟨some 8, none, false, .mv (.t 0)⟩,
  ⟨some 9, none, false, .bin .leq (.t 7) (.t 8)⟩,
  ⟨some 10, none, false, .mv (.t 9)⟩,
  ⟨some 11, some (10, true), false, .mv (.t 0)⟩,
  ⟨some 12, some (10, true), false, .mv (.t 2)⟩,
  ⟨some 13, some (10, true), false, .bin .leq (.t 11) (.t 12)⟩,
  ⟨some 14, none, false, .pick (.t 10) (.t 13) (.c (.bool false))⟩,
  ⟨some 6, none, false, .mv (.t 14)⟩]

def a_trial_within : Ann := ⟨[(1, [6]), (0, [0, 1, 2])], [], [], [], [], [], [], [], [], []⟩
def f_trial_within : Abs.Fn := ⟨3, [.t 6],
  (.seq (.reg [0, 1, 2] f_trial_within_r0) (.seq (.reg [6] f_trial_within_r1) .ret))⟩

theorem e_trial_within_r0 : type_of% f_trial_within_r0.eq_1 := by_rfl f_trial_within_r0.eq_1
theorem e_trial_within_r1 : type_of% f_trial_within_r1.eq_1 := by_rfl f_trial_within_r1.eq_1
theorem e_trial_within : type_of% f_trial_within.eq_1 := by_rfl f_trial_within.eq_1
theorem ok_trial_within : fnC Try.prog a_trial_within Try.f67 = some f_trial_within := by kernel_rfl

/-! 68 (fumarole/trial.Range).drops -/
def f_trial_Range_drops_r0 : List Abs.Op := [
  ⟨some 1, none, false, .boxi (.t 0)⟩,
  ⟨some 2, none, false, .mv (.c (.bool false))⟩]

def f_trial_Range_drops_r1 : List Abs.Op := [
  ⟨some 3, none, false, .ld true 2 (.t 1)⟩,
  ⟨some 4, none, false, .call false (.c (.fn i_trial_Range_right [] [])) [(.t 3), (.c (.int .i64 (-2000000000))), (.c (.int .i64 2000000000))]⟩,
  ⟨some 2, none, false, .mv (.t 4)⟩]

def a_trial_Range_drops : Ann := ⟨[(1, [2]), (0, [1])], [], [], [], [], [], [], [], [], []⟩
def f_trial_Range_drops : Abs.Fn := ⟨1, [.t 2],
  (.seq (.reg [1] f_trial_Range_drops_r0) (.seq (.reg [2] f_trial_Range_drops_r1) .ret))⟩

theorem e_trial_Range_drops_r0 : type_of% f_trial_Range_drops_r0.eq_1 := by_rfl f_trial_Range_drops_r0.eq_1
theorem e_trial_Range_drops_r1 : type_of% f_trial_Range_drops_r1.eq_1 := by_rfl f_trial_Range_drops_r1.eq_1
theorem e_trial_Range_drops : type_of% f_trial_Range_drops.eq_1 := by_rfl f_trial_Range_drops.eq_1
theorem ok_trial_Range_drops : fnC Try.prog a_trial_Range_drops Try.f68 = some f_trial_Range_drops := by kernel_rfl

/-! 70 (fumarole/trial.Curve).drop -/
def f_trial_Curve_drop_r0 : List Abs.Op := [
  ⟨some 2, none, false, .boxi (.t 0)⟩,
  ⟨some 4, none, false, .mv (.c (.int .i64 0))⟩]

def f_trial_Curve_drop_r1 : List Abs.Op := [
  ⟨some 5, none, false, .fadr 0 (.t 2)⟩,
  ⟨some 6, none, false, .ld false 1 (.t 5)⟩,
  ⟨some 7, none, false, .fadr 1 (.t 2)⟩,
  ⟨some 8, none, false, .ld false 1 (.t 7)⟩,
  ⟨some 9, none, false, .mv (.t 1)⟩,
  ⟨some 10, none, false, .bin .mul (.t 8) (.t 9)⟩,
  ⟨some 11, none, false, .bin .add (.t 6) (.t 10)⟩,
  ⟨some 12, none, false, .fadr 2 (.t 2)⟩,
  ⟨some 13, none, false, .ld false 1 (.t 12)⟩,
  ⟨some 14, none, false, .mv (.t 1)⟩,
  ⟨some 15, none, false, .bin .mul (.t 13) (.t 14)⟩,
  ⟨some 16, none, false, .mv (.t 1)⟩,
  ⟨some 17, none, false, .bin .mul (.t 15) (.t 16)⟩,
  ⟨some 18, none, false, .bin .add (.t 11) (.t 17)⟩,
  ⟨some 4, none, false, .mv (.t 18)⟩]

def a_trial_Curve_drop : Ann := ⟨[(1, [4]), (0, [1, 2])], [], [], [], [], [], [], [], [], []⟩
def f_trial_Curve_drop : Abs.Fn := ⟨2, [.t 4],
  (.seq (.reg [1, 2] f_trial_Curve_drop_r0) (.seq (.reg [4] f_trial_Curve_drop_r1) .ret))⟩

theorem e_trial_Curve_drop_r0 : type_of% f_trial_Curve_drop_r0.eq_1 := by_rfl f_trial_Curve_drop_r0.eq_1
theorem e_trial_Curve_drop_r1 : type_of% f_trial_Curve_drop_r1.eq_1 := by_rfl f_trial_Curve_drop_r1.eq_1
theorem e_trial_Curve_drop : type_of% f_trial_Curve_drop.eq_1 := by_rfl f_trial_Curve_drop.eq_1
theorem ok_trial_Curve_drop : fnC Try.prog a_trial_Curve_drop Try.f70 = some f_trial_Curve_drop := by kernel_rfl

/-! 71 (fumarole/trial.Test).sets -/
def f_trial_Test_sets_r0 : List Abs.Op := [
  ⟨some 1, none, false, .boxi (.t 0)⟩,
  ⟨some 2, none, false, .mv (.c .nilf)⟩]

def f_trial_Test_sets_r1 : List Abs.Op := [
  ⟨some 3, none, false, .mkf i_trial_Test_sets_1 [] [(.t 1)]⟩,
  ⟨some 2, none, false, .mv (.t 3)⟩]

def a_trial_Test_sets : Ann := ⟨[(1, [2]), (0, [1])], [], [], [], [], [], [], [], [], []⟩
def f_trial_Test_sets : Abs.Fn := ⟨1, [.t 2],
  (.seq (.reg [1] f_trial_Test_sets_r0) (.seq (.reg [2] f_trial_Test_sets_r1) .ret))⟩

theorem e_trial_Test_sets_r0 : type_of% f_trial_Test_sets_r0.eq_1 := by_rfl f_trial_Test_sets_r0.eq_1
theorem e_trial_Test_sets_r1 : type_of% f_trial_Test_sets_r1.eq_1 := by_rfl f_trial_Test_sets_r1.eq_1
theorem e_trial_Test_sets : type_of% f_trial_Test_sets.eq_1 := by_rfl f_trial_Test_sets.eq_1
theorem ok_trial_Test_sets : fnC Try.prog a_trial_Test_sets Try.f71 = some f_trial_Test_sets := by kernel_rfl

/-! 72 fumarole/trial.span -/
def f_trial_span_r0 : List Abs.Op := [
  ⟨some 2, none, false, .boxi (.t 0)⟩,
  ⟨some 3, none, false, .boxi (.t 1)⟩,
  ⟨some 4, none, false, .alcv [] [(.int .i64 0), (.int .i64 0)]⟩]

def f_trial_span_r1 : List Abs.Op := [
  ⟨some 5, none, false, .fadr 0 (.t 2)⟩,
  ⟨some 6, none, false, .ld false 1 (.t 5)⟩,
  ⟨some 7, none, false, .fadr 0 (.t 3)⟩,
  ⟨some 8, none, false, .ld false 1 (.t 7)⟩,
  ⟨some 9, none, false, .mn (.t 6) (.t 8)⟩,
  ⟨some 10, none, false, .fadr 1 (.t 2)⟩,
  ⟨some 11, none, false, .ld false 1 (.t 10)⟩,
  ⟨some 12, none, false, .fadr 1 (.t 3)⟩,
  ⟨some 13, none, false, .ld false 1 (.t 12)⟩,
  ⟨some 14, none, false, .mx (.t 11) (.t 13)⟩,
  ⟨some 15, none, false, .bld [(.int .i64 0), (.int .i64 0)] [(0, 1, (.t 9)), (1, 1, (.t 14))]⟩,
  ⟨none, none, false, .stv 4 [] 2 4 (.t 15)⟩]

def a_trial_span : Ann := ⟨[(1, [4]), (0, [2, 3, 4])], [], [], [4], [4], [], [], [], [], []⟩
def f_trial_span : Abs.Fn := ⟨2, [.v 4 true 2],
  (.seq (.reg [2, 3, 4] f_trial_span_r0) (.seq (.reg [4] f_trial_span_r1) .ret))⟩

theorem e_trial_span_r0 : type_of% f_trial_span_r0.eq_1 := by_rfl f_trial_span_r0.eq_1
theorem e_trial_span_r1 : type_of% f_trial_span_r1.eq_1 := by_rfl f_trial_span_r1.eq_1
theorem e_trial_span : type_of% f_trial_span.eq_1 := by_rfl f_trial_span.eq_1
theorem ok_trial_span : fnC Try.prog a_trial_span Try.f72 = some f_trial_span := by kernel_rfl

/-! 75 (fumarole/trial.Test).drawdown -/
def f_trial_Test_drawdown_r0 : List Abs.Op := [
  ⟨some 2, none, false, .boxi (.t 0)⟩,
  ⟨some 3, none, false, .boxi (.t 1)⟩,
  ⟨some 4, none, false, .alc [] [(.int .i64 0), (.int .i64 0)]⟩,
  ⟨some 5, none, false, .alc [] [(.bool false)]⟩]

def f_trial_Test_drawdown_r1 : List Abs.Op := [
  ⟨some 8, none, false, .ldi true 7 (.t 2)⟩,
  ⟨some 9, none, false, .call true (.c (.fn i_trial_Test_sets [] [])) [(.t 8)]⟩]

def f_trial_Test_drawdown_r2 : List Abs.Op := [
  ⟨some 6, none, false, .alcv [] [(.int .i64 0), (.int .i64 0), (.int .i64 0)]⟩,
  ⟨none, none, false, .stv 6 [] 3 6 (.t 10)⟩]

def f_trial_Test_drawdown_r3 : List Abs.Op := [
  ⟨some 7, none, false, .alcv [] [(.int .i64 0), (.int .i64 0)]⟩,
  ⟨none, none, false, .stv 7 [] 2 7 (.t 11)⟩]

def f_trial_Test_drawdown_r4 : List Abs.Op := [
  ⟨some 12, none, true, .ldv 7 true 2 7⟩,
  ⟨some 13, none, true, .ldv 6 true 3 6⟩,
  ⟨some 14, none, true, .ldi false 1 (.t 3)⟩,
  ⟨some 15, none, true, .call false (.c (.fn i_trial_Curve_drop [] [])) [(.t 13), (.t 14)]⟩,
  ⟨some 16, none, true, .un .neg (.t 15)⟩,
  ⟨some 17, none, false, .call false (.c (.fn i_trial_Range_less [] [])) [(.t 12), (.t 16)]⟩,
  ⟨none, none, false, .stv 7 [] 2 7 (.t 17)⟩]

def f_trial_Test_drawdown_r5 : List Abs.Op := [
  ⟨some 18, none, false, .ld false 1 (.t 5)⟩,
  ⟨some 19, none, false, .un .not (.t 18)⟩]

def f_trial_Test_drawdown_r6 : List Abs.Op := [
  ⟨some 20, none, false, .ldv 7 true 2 7⟩,
  ⟨none, none, false, .st [] 2 (.t 4) (.t 20)⟩,
  ⟨none, none, false, .st [] 1 (.t 5) (.c (.bool true))⟩]

def f_trial_Test_drawdown_r7 : List Abs.Op := [
  ⟨some 21, none, false, .ld true 2 (.t 4)⟩,
  ⟨some 22, none, false, .ldv 7 true 2 7⟩,
  ⟨some 23, none, false, .call false (.c (.fn i_trial_span [] [])) [(.t 21), (.t 22)]⟩,
  ⟨none, none, false, .st [] 2 (.t 4) (.t 23)⟩]

def f_trial_Test_drawdown_a8 : Abs.Cmd :=
  (.seq (.reg [3, 4, 5, 6, 11] f_trial_Test_drawdown_r2) (.reg [3, 4, 5, 6, 7] f_trial_Test_drawdown_r3))

def f_trial_Test_drawdown_b8 : Abs.Cmd :=
  (.blk 1 (.seq (.reg [4, 5, 7] f_trial_Test_drawdown_r4) (.seq (.seq (.reg [4, 5, 7, 19] f_trial_Test_drawdown_r5) (.ite (.t 19) (.reg [4, 7] f_trial_Test_drawdown_r6) .nop)) (.reg [] f_trial_Test_drawdown_r7))))

def f_trial_Test_drawdown_r9 : List Abs.Op := [
  ⟨some 24, none, true, .ld true 2 (.t 4)⟩,
  ⟨some 25, none, true, .ld false 1 (.t 5)⟩,
  ⟨none, none, true, .stc [5] 2 (.t 4) (.t 24)⟩,
  ⟨none, none, false, .stc [4] 1 (.t 5) (.t 25)⟩]

def a_trial_Test_drawdown : Ann := ⟨[(8, [4, 5]), (7, []), (6, [4, 7]), (5, [4, 5, 7, 19]), (4, [4, 5, 7]), (3, [3, 4, 5, 6, 7]), (2, [3, 4, 5, 6, 11]), (1, [3, 4, 5, 9]), (0, [2, 3, 4, 5])], [(0, [3, 4, 5])], [], [4, 5, 6, 7], [6, 7], [], [1001], [], [2, 3], [(8002, some [5]), (8003, some [4])]⟩
def f_trial_Test_drawdown : Abs.Fn := ⟨2, [.c 4 true 2, .c 5 false 1],
  (.seq (.reg [2, 3, 4, 5] f_trial_Test_drawdown_r0) (.seq (.seq (.reg [3, 4, 5, 9] f_trial_Test_drawdown_r1) (.blk 0 (.rngf [3, 4, 5] (.t 9) [10, 11] f_trial_Test_drawdown_a8 f_trial_Test_drawdown_b8))) (.seq (.reg [4, 5] f_trial_Test_drawdown_r9) .ret)))⟩

theorem e_trial_Test_drawdown_r0 : type_of% f_trial_Test_drawdown_r0.eq_1 := by_rfl f_trial_Test_drawdown_r0.eq_1
theorem e_trial_Test_drawdown_r1 : type_of% f_trial_Test_drawdown_r1.eq_1 := by_rfl f_trial_Test_drawdown_r1.eq_1
theorem e_trial_Test_drawdown_r2 : type_of% f_trial_Test_drawdown_r2.eq_1 := by_rfl f_trial_Test_drawdown_r2.eq_1
theorem e_trial_Test_drawdown_r3 : type_of% f_trial_Test_drawdown_r3.eq_1 := by_rfl f_trial_Test_drawdown_r3.eq_1
theorem e_trial_Test_drawdown_r4 : type_of% f_trial_Test_drawdown_r4.eq_1 := by_rfl f_trial_Test_drawdown_r4.eq_1
theorem e_trial_Test_drawdown_r5 : type_of% f_trial_Test_drawdown_r5.eq_1 := by_rfl f_trial_Test_drawdown_r5.eq_1
theorem e_trial_Test_drawdown_r6 : type_of% f_trial_Test_drawdown_r6.eq_1 := by_rfl f_trial_Test_drawdown_r6.eq_1
theorem e_trial_Test_drawdown_r7 : type_of% f_trial_Test_drawdown_r7.eq_1 := by_rfl f_trial_Test_drawdown_r7.eq_1
theorem e_trial_Test_drawdown_a8 : type_of% f_trial_Test_drawdown_a8.eq_1 := by_rfl f_trial_Test_drawdown_a8.eq_1
theorem e_trial_Test_drawdown_b8 : type_of% f_trial_Test_drawdown_b8.eq_1 := by_rfl f_trial_Test_drawdown_b8.eq_1
theorem e_trial_Test_drawdown_r9 : type_of% f_trial_Test_drawdown_r9.eq_1 := by_rfl f_trial_Test_drawdown_r9.eq_1
theorem e_trial_Test_drawdown : type_of% f_trial_Test_drawdown.eq_1 := by_rfl f_trial_Test_drawdown.eq_1
theorem ok_trial_Test_drawdown : fnC Try.prog a_trial_Test_drawdown Try.f75 = some f_trial_Test_drawdown := by kernel_rfl

/-! 76 fumarole/fumaroleref04.Against -/
def f_ref04_Against_r0 : List Abs.Op := [
  ⟨some 2, none, false, .boxi (.t 0)⟩,
  ⟨some 3, none, false, .boxi (.t 1)⟩,
  ⟨some 4, none, false, .mv (.c (.bool false))⟩]

def f_ref04_Against_r1 : List Abs.Op := [
  ⟨some 5, none, false, .fadr 2 (.t 3)⟩,
  ⟨some 6, none, false, .fadr 1 (.t 5)⟩,
  ⟨some 7, none, false, .ld false 1 (.t 6)⟩,
  ⟨some 8, none, false, .fadr 1 (.t 2)⟩,
  ⟨some 9, none, false, .ld false 1 (.t 8)⟩,
  ⟨some 10, none, false, .bin .lss (.t 7) (.t 9)⟩,
  ⟨some 4, none, false, .mv (.t 10)⟩]

def a_ref04_Against : Ann := ⟨[(1, [4]), (0, [2, 3])], [], [], [], [], [], [], [], [], []⟩
def f_ref04_Against : Abs.Fn := ⟨2, [.t 4],
  (.seq (.reg [2, 3] f_ref04_Against_r0) (.seq (.reg [4] f_ref04_Against_r1) .ret))⟩

theorem e_ref04_Against_r0 : type_of% f_ref04_Against_r0.eq_1 := by_rfl f_ref04_Against_r0.eq_1
theorem e_ref04_Against_r1 : type_of% f_ref04_Against_r1.eq_1 := by_rfl f_ref04_Against_r1.eq_1
theorem e_ref04_Against : type_of% f_ref04_Against.eq_1 := by_rfl f_ref04_Against.eq_1
theorem ok_ref04_Against : fnC Try.prog a_ref04_Against Try.f76 = some f_ref04_Against := by kernel_rfl

/-! 77 fumarole/trial.checked -/
def f_trial_checked_r0 : List Abs.Op := [
  ⟨some 1, none, false, .boxi (.t 0)⟩,
  ⟨some 2, none, false, .alcv [] [(.int .i64 0), (.int .i64 0), .nils, (.int .i64 0), (.int .i64 0), (.int .i64 0), (.int .i64 0), (.int .i64 0), (.int .i64 0), (.int .i64 0), (.int .i64 0), (.int .i64 0), (.int .i64 0)]⟩,
  ⟨some 3, none, false, .mv (.c (.int .i64 0))⟩]

def f_trial_checked_r1 : List Abs.Op := [
  ⟨some 6, none, false, .ld true 3 (.t 1)⟩,
  ⟨some 7, none, false, .call false (.c (.fn i_trial_CheckSurvey [] [])) [(.t 6)]⟩,
  ⟨some 4, none, false, .mv (.t 7)⟩]

def f_trial_checked_r2 : List Abs.Op := [
  ⟨some 8, none, false, .mv (.t 4)⟩,
  ⟨some 9, none, false, .bin .neq (.t 8) (.c (.int .i64 0))⟩]

def f_trial_checked_r3 : List Abs.Op := [
  ⟨some 10, none, false, .bld [(.int .i64 0), (.int .i64 0), .nils, (.int .i64 0), (.int .i64 0), (.int .i64 0), (.int .i64 0), (.int .i64 0), (.int .i64 0), (.int .i64 0), (.int .i64 0), (.int .i64 0), (.int .i64 0)] []⟩,
  ⟨some 11, none, false, .mv (.t 4)⟩,
  ⟨none, none, false, .stv 2 [] 13 2 (.t 10)⟩,
  ⟨some 3, none, false, .mv (.t 11)⟩]

def f_trial_checked_r4 : List Abs.Op := [
  ⟨some 12, none, false, .ld true 3 (.t 1)⟩,
  ⟨some 13, none, false, .call false (.c (.fn i_trial_Survey_groups [] [])) [(.t 12)]⟩,
  ⟨some 5, none, false, .alcv [] [(.int .i64 0), (.int .i64 0), .nils, (.int .i64 0), (.int .i64 0), (.int .i64 0), (.int .i64 0), (.int .i64 0), (.int .i64 0), (.int .i64 0), (.int .i64 0), (.int .i64 0), (.int .i64 0)]⟩,
  ⟨none, none, false, .stv 5 [] 13 5 (.t 13)⟩]

def f_trial_checked_r5 : List Abs.Op := [
  ⟨some 14, none, false, .ldv 5 true 13 5⟩,
  ⟨some 15, none, false, .call false (.c (.fn i_trial_parted_clash [] [])) [(.t 14)]⟩,
  ⟨some 16, none, false, .bin .geq (.t 15) (.c (.int .i64 0))⟩]

def f_trial_checked_r6 : List Abs.Op := [
  ⟨some 17, none, false, .bld [(.int .i64 0), (.int .i64 0), .nils, (.int .i64 0), (.int .i64 0), (.int .i64 0), (.int .i64 0), (.int .i64 0), (.int .i64 0), (.int .i64 0), (.int .i64 0), (.int .i64 0), (.int .i64 0)] []⟩,
  ⟨none, none, false, .stv 2 [] 13 2 (.t 17)⟩,
  ⟨some 3, none, false, .mv (.c (.int .i64 9))⟩]

def f_trial_checked_r7 : List Abs.Op := [
  ⟨some 18, none, false, .ldv 5 true 13 5⟩,
  ⟨none, none, false, .stv 2 [] 13 2 (.t 18)⟩,
  ⟨some 3, none, false, .mv (.c (.int .i64 0))⟩]

def a_trial_checked : Ann := ⟨[(7, [2, 3]), (6, [2, 3]), (5, [2, 5, 16]), (4, [2, 5]), (3, [2, 3]), (2, [1, 2, 4, 9]), (1, [1, 2, 4]), (0, [1, 2])], [], [], [2, 5], [2, 5], [], [], [], [], []⟩
def f_trial_checked : Abs.Fn := ⟨1, [.v 2 true 13, .t 3],
  (.seq (.reg [1, 2] f_trial_checked_r0) (.seq (.seq (.reg [1, 2, 4] f_trial_checked_r1) (.seq (.reg [1, 2, 4, 9] f_trial_checked_r2) (.ite (.t 9) (.seq (.reg [2, 3] f_trial_checked_r3) .ret) .nop))) (.seq (.reg [2, 5] f_trial_checked_r4) (.seq (.seq (.reg [2, 5, 16] f_trial_checked_r5) (.ite (.t 16) (.seq (.reg [2, 3] f_trial_checked_r6) .ret) .nop)) (.seq (.reg [2, 3] f_trial_checked_r7) .ret)))))⟩

theorem e_trial_checked_r0 : type_of% f_trial_checked_r0.eq_1 := by_rfl f_trial_checked_r0.eq_1
theorem e_trial_checked_r1 : type_of% f_trial_checked_r1.eq_1 := by_rfl f_trial_checked_r1.eq_1
theorem e_trial_checked_r2 : type_of% f_trial_checked_r2.eq_1 := by_rfl f_trial_checked_r2.eq_1
theorem e_trial_checked_r3 : type_of% f_trial_checked_r3.eq_1 := by_rfl f_trial_checked_r3.eq_1
theorem e_trial_checked_r4 : type_of% f_trial_checked_r4.eq_1 := by_rfl f_trial_checked_r4.eq_1
theorem e_trial_checked_r5 : type_of% f_trial_checked_r5.eq_1 := by_rfl f_trial_checked_r5.eq_1
theorem e_trial_checked_r6 : type_of% f_trial_checked_r6.eq_1 := by_rfl f_trial_checked_r6.eq_1
theorem e_trial_checked_r7 : type_of% f_trial_checked_r7.eq_1 := by_rfl f_trial_checked_r7.eq_1
theorem e_trial_checked : type_of% f_trial_checked.eq_1 := by_rfl f_trial_checked.eq_1
theorem ok_trial_checked : fnC Try.prog a_trial_checked Try.f77 = some f_trial_checked := by kernel_rfl

/-! 78 (fumarole/trial.parted).relation -/
def f_trial_parted_relation_r0 : List Abs.Op := [
  ⟨some 3, none, false, .boxi (.t 0)⟩,
  ⟨some 6, none, false, .mv (.c (.int .u8 0))⟩]

def f_trial_parted_relation_r1 : List Abs.Op := [
  ⟨some 11, none, true, .mv (.t 1)⟩,
  ⟨some 12, none, true, .fadr 3 (.t 3)⟩,
  ⟨some 13, none, true, .idxA 10 1 (.t 12) (.t 11)⟩,
  ⟨some 14, none, true, .ld false 1 (.t 13)⟩,
  ⟨some 15, none, true, .mv (.t 2)⟩,
  ⟨some 16, none, true, .fadr 3 (.t 3)⟩,
  ⟨some 17, none, true, .idxA 10 1 (.t 16) (.t 15)⟩,
  ⟨some 18, none, true, .ld false 1 (.t 17)⟩,
  ⟨some 19, none, false, .bin .eql (.t 14) (.t 18)⟩]

def f_trial_parted_relation_r2 : List Abs.Op := [
  ⟨some 6, none, false, .mv (.c (.int .u8 2))⟩]

def f_trial_parted_relation_r3 : List Abs.Op := [
  ⟨some 20, none, false, .fadr 0 (.t 3)⟩,
  ⟨some 21, none, false, .fadr 2 (.t 20)⟩,
  ⟨some 22, none, false, .ld false 1 (.t 21)⟩,
  ⟨some 23, none, false, .lenS (.t 22)⟩,
  ⟨some 24, none, false, .mv (.c (.int .i64 0))⟩]

def f_trial_parted_relation_r4 : List Abs.Op := [
  ⟨some 25, none, false, .bin .lss (.t 24) (.t 23)⟩]

def f_trial_parted_relation_r5 : List Abs.Op := [
  ⟨some 26, none, false, .idxS 4 (.t 22) (.t 24)⟩,
  ⟨some 27, none, false, .ld true 4 (.t 26)⟩,
  ⟨some 8, none, false, .alcv [] [(.int .i64 0), (.int .i64 0), (.int .i64 0), (.int .i64 0)]⟩,
  ⟨none, none, false, .stv 8 [] 4 8 (.t 27)⟩]

def f_trial_parted_relation_r6 : List Abs.Op := [
  ⟨some 28, none, true, .fadr 0 (.t 8)⟩,
  ⟨some 29, none, true, .ldv 8 false 1 28⟩,
  ⟨some 30, none, true, .fadr 3 (.t 3)⟩,
  ⟨some 31, none, true, .idxA 10 1 (.t 30) (.t 29)⟩,
  ⟨some 32, none, true, .ld false 1 (.t 31)⟩,
  ⟨some 33, none, true, .fadr 1 (.t 8)⟩,
  ⟨some 34, none, true, .ldv 8 false 1 33⟩,
  ⟨some 35, none, true, .fadr 3 (.t 3)⟩,
  ⟨some 36, none, true, .idxA 10 1 (.t 35) (.t 34)⟩,
  ⟨some 37, none, true, .ld false 1 (.t 36)⟩,
  ⟨some 9, none, true, .mv (.t 32)⟩,
  ⟨some 10, none, false, .mv (.t 37)⟩]

def f_trial_parted_relation_r7 : List Abs.Op := [
  ⟨some 38, none, false, .fadr 0 (.t 3)⟩,
  ⟨some 39, none, false, .ld true 3 (.t 38)⟩,
  ⟨some 40, none, false, .ldv 8 true 4 8⟩,
  ⟨some 41, none, false, .call false (.c (.fn i_trial_Survey_apart [] [])) [(.t 39), (.t 40)]⟩,
  ⟨some 42, none, false, .mv (.t 41)⟩,
  ⟨some 43, some (42, true), false, .mv (.t 9)⟩,
  ⟨some 44, some (42, true), false, .mv (.t 1)⟩,
  ⟨some 45, some (42, true), false, .fadr 3 (.t 3)⟩,
  ⟨some 46, some (42, true), false, .idxA 10 1 (.t 45) (.t 44)⟩,
  ⟨some 47, some (42, true), false, .ld false 1 (.t 46)⟩,
  ⟨some 48, some (42, true), false, .bin .eql (.t 43) (.t 47)⟩,
  ⟨some 49, some (42, true), false, .mv (.t 48)⟩,
  ⟨some 50, some (49, true), false, .mv (.t 10)⟩,
  ⟨some 51, some (49, true), false, .mv (.t 2)⟩,
  ⟨some 52, some (49, true), false, .fadr 3 (.t 3)⟩,
  ⟨some 53, some (49, true), false, .idxA 10 1 (.t 52) (.t 51)⟩,
  ⟨some 54, some (49, true), false, .ld false 1 (.t 53)⟩,
  ⟨some 55, some (49, true), false, .bin .eql (.t 50) (.t 54)⟩,
  ⟨some 56, some (42, true), false, .pick (.t 49) (.t 55) (.c (.bool false))⟩,
  ⟨some 57, some (42, true), false, .mv (.t 56)⟩,
  ⟨some 58, some (57, false), false, .mv (.t 9)⟩,
  ⟨some 59, some (57, false), false, .mv (.t 2)⟩,
  ⟨some 60, some (57, false), false, .fadr 3 (.t 3)⟩,
  ⟨some 61, some (57, false), false, .idxA 10 1 (.t 60) (.t 59)⟩,
  ⟨some 62, some (57, false), false, .ld false 1 (.t 61)⟩,
  ⟨some 63, some (57, false), false, .bin .eql (.t 58) (.t 62)⟩,
  ⟨some 64, some (57, false), false, .mv (.t 63)⟩,
  ⟨some 65, some (64, true), false, .mv (.t 10)⟩,
  ⟨some 66, some (64, true), false, .mv (.t 1)⟩,
  ⟨some 67, some (64, true), false, .fadr 3 (.t 3)⟩,
  ⟨some 68, some (64, true), false, .idxA 10 1 (.t 67) (.t 66)⟩,
  ⟨some 69, some (64, true), false, .ld false 1 (.t 68)⟩,
  ⟨some 70, some (64, true), false, .bin .eql (.t 65) (.t 69)⟩,
  ⟨some 71, some (57, false), false, .pick (.t 64) (.t 70) (.c (.bool false))⟩,
  ⟨some 72, some (42, true), false, .pick (.t 57) (.c (.bool true)) (.t 71)⟩,
  ⟨some 73, none, false, .pick (.t 42) (.t 72) (.c (.bool false))⟩]

def f_trial_parted_relation_r8 : List Abs.Op := [
  ⟨some 6, none, false, .mv (.c (.int .u8 0))⟩]

def f_trial_parted_relation_r9 : List Abs.Op := [
  ⟨some 74, none, false, .bin .add (.t 24) (.c (.int .i64 1))⟩,
  ⟨some 24, none, false, .mv (.t 74)⟩]

def f_trial_parted_relation_l10 : Abs.Cmd :=
  (.seq (.reg [1, 2, 3, 22, 23, 24, 25] f_trial_parted_relation_r4) (.seq (.ite (.t 25) .nop (.exit 0)) (.seq (.blk 1 (.seq (.reg [1, 2, 3, 8, 22, 23, 24] f_trial_parted_relation_r5) (.seq (.reg [1, 2, 3, 8, 9, 10, 22, 23, 24] f_trial_parted_relation_r6) (.seq (.reg [1, 2, 3, 22, 23, 24, 73] f_trial_parted_relation_r7) (.ite (.t 73) (.seq (.reg [6] f_trial_parted_relation_r8) .ret) .nop))))) (.reg [1, 2, 3, 22, 23, 24] f_trial_parted_relation_r9))))

def f_trial_parted_relation_r11 : List Abs.Op := [
  ⟨some 6, none, false, .mv (.c (.int .u8 1))⟩]

def a_trial_parted_relation : Ann := ⟨[(10, [6]), (9, [1, 2, 3, 22, 23, 24]), (8, [6]), (7, [1, 2, 3, 22, 23, 24, 73]), (6, [1, 2, 3, 8, 9, 10, 22, 23, 24]), (5, [1, 2, 3, 8, 22, 23, 24]), (4, [1, 2, 3, 22, 23, 24, 25]), (3, [1, 2, 3, 22, 23, 24]), (2, [6]), (1, [1, 2, 3, 19]), (0, [1, 2, 3])], [(0, [1, 2, 3, 22, 23, 24])], [], [8], [8], [], [], [], [], []⟩
def f_trial_parted_relation : Abs.Fn := ⟨3, [.t 6],
  (.seq (.reg [1, 2, 3] f_trial_parted_relation_r0) (.seq (.seq (.reg [1, 2, 3, 19] f_trial_parted_relation_r1) (.ite (.t 19) (.seq (.reg [6] f_trial_parted_relation_r2) .ret) .nop)) (.seq (.seq (.reg [1, 2, 3, 22, 23, 24] f_trial_parted_relation_r3) (.blk 0 (.loop [1, 2, 3, 22, 23, 24] false f_trial_parted_relation_l10))) (.seq (.reg [6] f_trial_parted_relation_r11) .ret))))⟩

theorem e_trial_parted_relation_r0 : type_of% f_trial_parted_relation_r0.eq_1 := by_rfl f_trial_parted_relation_r0.eq_1
theorem e_trial_parted_relation_r1 : type_of% f_trial_parted_relation_r1.eq_1 := by_rfl f_trial_parted_relation_r1.eq_1
theorem e_trial_parted_relation_r2 : type_of% f_trial_parted_relation_r2.eq_1 := by_rfl f_trial_parted_relation_r2.eq_1
theorem e_trial_parted_relation_r3 : type_of% f_trial_parted_relation_r3.eq_1 := by_rfl f_trial_parted_relation_r3.eq_1
theorem e_trial_parted_relation_r4 : type_of% f_trial_parted_relation_r4.eq_1 := by_rfl f_trial_parted_relation_r4.eq_1
theorem e_trial_parted_relation_r5 : type_of% f_trial_parted_relation_r5.eq_1 := by_rfl f_trial_parted_relation_r5.eq_1
theorem e_trial_parted_relation_r6 : type_of% f_trial_parted_relation_r6.eq_1 := by_rfl f_trial_parted_relation_r6.eq_1
theorem e_trial_parted_relation_r7 : type_of% f_trial_parted_relation_r7.eq_1 := by_rfl f_trial_parted_relation_r7.eq_1
theorem e_trial_parted_relation_r8 : type_of% f_trial_parted_relation_r8.eq_1 := by_rfl f_trial_parted_relation_r8.eq_1
theorem e_trial_parted_relation_r9 : type_of% f_trial_parted_relation_r9.eq_1 := by_rfl f_trial_parted_relation_r9.eq_1
theorem e_trial_parted_relation_l10 : type_of% f_trial_parted_relation_l10.eq_1 := by_rfl f_trial_parted_relation_l10.eq_1
theorem e_trial_parted_relation_r11 : type_of% f_trial_parted_relation_r11.eq_1 := by_rfl f_trial_parted_relation_r11.eq_1
theorem e_trial_parted_relation : type_of% f_trial_parted_relation.eq_1 := by_rfl f_trial_parted_relation.eq_1
theorem ok_trial_parted_relation : fnC Try.prog a_trial_parted_relation Try.f78 = some f_trial_parted_relation := by kernel_rfl

/-! 79 fumarole/trial.Plan$1 -/
def f_trial_Plan_1_r0 : List Abs.Op := [
  ⟨some 3, none, false, .boxi (.t 0)⟩,
  ⟨some 4, none, false, .mv (.c (.bool false))⟩]

def f_trial_Plan_1_r1 : List Abs.Op := [
  ⟨some 5, none, false, .ld false 1 (.t 1)⟩,
  ⟨some 6, none, false, .mkf i_trial_Plan_1_1 [] [(.t 2), (.t 3)]⟩,
  ⟨some 7, none, false, .call false (.c (.fn i_slices_ContainsFunc_int [] [])) [(.t 5), (.t 6)]⟩,
  ⟨some 4, none, false, .mv (.t 7)⟩]

def a_trial_Plan_1 : Ann := ⟨[(1, [4]), (0, [1, 2, 3])], [], [], [], [], [], [], [], [], []⟩
def f_trial_Plan_1 : Abs.Fn := ⟨3, [.t 4],
  (.seq (.reg [1, 2, 3] f_trial_Plan_1_r0) (.seq (.reg [4] f_trial_Plan_1_r1) .ret))⟩

theorem e_trial_Plan_1_r0 : type_of% f_trial_Plan_1_r0.eq_1 := by_rfl f_trial_Plan_1_r0.eq_1
theorem e_trial_Plan_1_r1 : type_of% f_trial_Plan_1_r1.eq_1 := by_rfl f_trial_Plan_1_r1.eq_1
theorem e_trial_Plan_1 : type_of% f_trial_Plan_1.eq_1 := by_rfl f_trial_Plan_1.eq_1
theorem ok_trial_Plan_1 : fnC Try.prog a_trial_Plan_1 Try.f79 = some f_trial_Plan_1 := by kernel_rfl

/-! 80 slices.ContainsFunc[[]int,int] -/
def f_slices_ContainsFunc_int_r0 : List Abs.Op := [
  ⟨some 4, none, false, .mv (.c (.bool false))⟩]

def f_slices_ContainsFunc_int_r1 : List Abs.Op := [
  ⟨some 5, none, false, .mv (.t 0)⟩,
  ⟨some 6, none, false, .mv (.t 1)⟩,
  ⟨some 7, none, false, .call false (.c (.fn i_slices_IndexFunc_int [] [])) [(.t 5), (.t 6)]⟩,
  ⟨some 8, none, false, .bin .geq (.t 7) (.c (.int .i64 0))⟩,
  ⟨some 4, none, false, .mv (.t 8)⟩]

def a_slices_ContainsFunc_int : Ann := ⟨[(1, [4]), (0, [0, 1])], [], [], [], [], [], [], [], [], []⟩
def f_slices_ContainsFunc_int : Abs.Fn := ⟨2, [.t 4],
  (.seq (.reg [0, 1] f_slices_ContainsFunc_int_r0) (.seq (.reg [4] f_slices_ContainsFunc_int_r1) .ret))⟩

theorem e_slices_ContainsFunc_int_r0 : type_of% f_slices_ContainsFunc_int_r0.eq_1 := by_rfl f_slices_ContainsFunc_int_r0.eq_1
theorem e_slices_ContainsFunc_int_r1 : type_of% f_slices_ContainsFunc_int_r1.eq_1 := by_rfl f_slices_ContainsFunc_int_r1.eq_1
theorem e_slices_ContainsFunc_int : type_of% f_slices_ContainsFunc_int.eq_1 := by_rfl f_slices_ContainsFunc_int.eq_1
theorem ok_slices_ContainsFunc_int : fnC Try.prog a_slices_ContainsFunc_int Try.f80 = some f_slices_ContainsFunc_int := by kernel_rfl

/-! 81 fumarole/trial.Plan$1$1 -/
def f_trial_Plan_1_1_r0 : List Abs.Op := [
  ⟨some 4, none, false, .mv (.c (.bool false))⟩]

def f_trial_Plan_1_1_r1 : List Abs.Op := [
  ⟨some 5, none, true, .mv (.t 0)⟩,
  ⟨some 6, none, true, .fadr 3 (.t 1)⟩,
  ⟨some 7, none, true, .idxA 10 1 (.t 6) (.t 5)⟩,
  ⟨some 8, none, true, .ld false 1 (.t 7)⟩,
  ⟨some 9, none, true, .ld false 1 (.t 2)⟩,
  ⟨some 10, none, true, .fadr 3 (.t 1)⟩,
  ⟨some 11, none, true, .idxA 10 1 (.t 10) (.t 9)⟩,
  ⟨some 12, none, true, .ld false 1 (.t 11)⟩,
  ⟨some 13, none, false, .bin .eql (.t 8) (.t 12)⟩,
  ⟨some 4, none, false, .mv (.t 13)⟩]

def a_trial_Plan_1_1 : Ann := ⟨[(1, [4]), (0, [0, 1, 2])], [], [], [], [], [], [], [], [], []⟩
def f_trial_Plan_1_1 : Abs.Fn := ⟨3, [.t 4],
  (.seq (.reg [0, 1, 2] f_trial_Plan_1_1_r0) (.seq (.reg [4] f_trial_Plan_1_1_r1) .ret))⟩

theorem e_trial_Plan_1_1_r0 : type_of% f_trial_Plan_1_1_r0.eq_1 := by_rfl f_trial_Plan_1_1_r0.eq_1
theorem e_trial_Plan_1_1_r1 : type_of% f_trial_Plan_1_1_r1.eq_1 := by_rfl f_trial_Plan_1_1_r1.eq_1
theorem e_trial_Plan_1_1 : type_of% f_trial_Plan_1_1.eq_1 := by_rfl f_trial_Plan_1_1.eq_1
theorem ok_trial_Plan_1_1 : fnC Try.prog a_trial_Plan_1_1 Try.f81 = some f_trial_Plan_1_1 := by kernel_rfl

/-! 82 fumarole/trial.Plan$2 -/
def f_trial_Plan_2_r0 : List Abs.Op := [
  ⟨some 3, none, false, .mv (.c (.bool false))⟩]

def f_trial_Plan_2_r1 : List Abs.Op := [
  ⟨some 6, none, false, .fadr 0 (.t 0)⟩,
  ⟨some 7, none, false, .ld false 1 (.t 6)⟩,
  ⟨some 8, none, false, .mv (.c (.int .i64 0))⟩]

def f_trial_Plan_2_r2 : List Abs.Op := [
  ⟨some 9, none, false, .bin .lss (.t 8) (.t 7)⟩]

def f_trial_Plan_2_r3 : List Abs.Op := [
  ⟨some 10, none, false, .mv (.t 8)⟩,
  ⟨some 4, none, false, .mv (.t 10)⟩]

def f_trial_Plan_2_r4 : List Abs.Op := [
  ⟨some 11, none, false, .mv (.t 4)⟩,
  ⟨some 12, none, false, .mv (.c (.int .i64 0))⟩]

def f_trial_Plan_2_r5 : List Abs.Op := [
  ⟨some 13, none, false, .bin .lss (.t 12) (.t 11)⟩]

def f_trial_Plan_2_r6 : List Abs.Op := [
  ⟨some 14, none, false, .mv (.t 12)⟩,
  ⟨some 5, none, false, .mv (.t 14)⟩]

def f_trial_Plan_2_r7 : List Abs.Op := [
  ⟨some 15, none, false, .ld true 13 (.t 1)⟩,
  ⟨some 16, none, false, .mv (.t 4)⟩,
  ⟨some 17, none, false, .mv (.t 5)⟩,
  ⟨some 18, none, false, .call false (.c (.fn i_trial_parted_relation [] [])) [(.t 15), (.t 16), (.t 17)]⟩,
  ⟨some 19, none, false, .bin .eql (.t 18) (.c (.int .u8 1))⟩,
  ⟨some 20, none, false, .mv (.t 19)⟩,
  ⟨some 21, some (20, true), false, .ld false 1 (.t 2)⟩,
  ⟨some 22, some (20, true), false, .mv (.t 4)⟩,
  ⟨some 23, some (20, true), false, .call false (.t 21) [(.t 22)]⟩,
  ⟨some 24, some (20, true), false, .un .not (.t 23)⟩,
  ⟨some 25, none, false, .pick (.t 20) (.t 24) (.c (.bool false))⟩,
  ⟨some 26, none, false, .mv (.t 25)⟩,
  ⟨some 27, some (26, true), false, .ld false 1 (.t 2)⟩,
  ⟨some 28, some (26, true), false, .mv (.t 5)⟩,
  ⟨some 29, some (26, true), false, .call false (.t 27) [(.t 28)]⟩,
  ⟨some 30, some (26, true), false, .un .not (.t 29)⟩,
  ⟨some 31, none, false, .pick (.t 26) (.t 30) (.c (.bool false))⟩]

def f_trial_Plan_2_r8 : List Abs.Op := [
  ⟨some 3, none, false, .mv (.c (.bool false))⟩]

def f_trial_Plan_2_r9 : List Abs.Op := [
  ⟨some 32, none, false, .bin .add (.t 12) (.c (.int .i64 1))⟩,
  ⟨some 12, none, false, .mv (.t 32)⟩]

def f_trial_Plan_2_l10 : Abs.Cmd :=
  (.seq (.reg [1, 2, 4, 7, 8, 11, 12, 13] f_trial_Plan_2_r5) (.seq (.ite (.t 13) .nop (.exit 2)) (.seq (.blk 3 (.seq (.reg [1, 2, 4, 5, 7, 8, 11, 12] f_trial_Plan_2_r6) (.seq (.reg [1, 2, 4, 7, 8, 11, 12, 31] f_trial_Plan_2_r7) (.ite (.t 31) (.seq (.reg [3] f_trial_Plan_2_r8) .ret) .nop)))) (.reg [1, 2, 4, 7, 8, 11, 12] f_trial_Plan_2_r9))))

def f_trial_Plan_2_r11 : List Abs.Op := [
  ⟨some 33, none, false, .bin .add (.t 8) (.c (.int .i64 1))⟩,
  ⟨some 8, none, false, .mv (.t 33)⟩]

def f_trial_Plan_2_l12 : Abs.Cmd :=
  (.seq (.reg [1, 2, 7, 8, 9] f_trial_Plan_2_r2) (.seq (.ite (.t 9) .nop (.exit 0)) (.seq (.blk 1 (.seq (.reg [1, 2, 4, 7, 8] f_trial_Plan_2_r3) (.seq (.reg [1, 2, 4, 7, 8, 11, 12] f_trial_Plan_2_r4) (.blk 2 (.loop [1, 2, 4, 7, 8, 11, 12] false f_trial_Plan_2_l10))))) (.reg [1, 2, 7, 8] f_trial_Plan_2_r11))))

def f_trial_Plan_2_r13 : List Abs.Op := [
  ⟨some 3, none, false, .mv (.c (.bool true))⟩]

def a_trial_Plan_2 : Ann := ⟨[(11, [3]), (10, [1, 2, 7, 8]), (9, [1, 2, 4, 7, 8, 11, 12]), (8, [3]), (7, [1, 2, 4, 7, 8, 11, 12, 31]), (6, [1, 2, 4, 5, 7, 8, 11, 12]), (5, [1, 2, 4, 7, 8, 11, 12, 13]), (4, [1, 2, 4, 7, 8, 11, 12]), (3, [1, 2, 4, 7, 8]), (2, [1, 2, 7, 8, 9]), (1, [1, 2, 7, 8]), (0, [0, 1, 2])], [(2, [1, 2, 4, 7, 8, 11, 12]), (0, [1, 2, 7, 8])], [], [], [], [], [], [], [], []⟩
def f_trial_Plan_2 : Abs.Fn := ⟨3, [.t 3],
  (.seq (.reg [0, 1, 2] f_trial_Plan_2_r0) (.seq (.seq (.reg [1, 2, 7, 8] f_trial_Plan_2_r1) (.blk 0 (.loop [1, 2, 7, 8] false f_trial_Plan_2_l12))) (.seq (.reg [3] f_trial_Plan_2_r13) .ret)))⟩

theorem e_trial_Plan_2_r0 : type_of% f_trial_Plan_2_r0.eq_1 := by_rfl f_trial_Plan_2_r0.eq_1
theorem e_trial_Plan_2_r1 : type_of% f_trial_Plan_2_r1.eq_1 := by_rfl f_trial_Plan_2_r1.eq_1
theorem e_trial_Plan_2_r2 : type_of% f_trial_Plan_2_r2.eq_1 := by_rfl f_trial_Plan_2_r2.eq_1
theorem e_trial_Plan_2_r3 : type_of% f_trial_Plan_2_r3.eq_1 := by_rfl f_trial_Plan_2_r3.eq_1
theorem e_trial_Plan_2_r4 : type_of% f_trial_Plan_2_r4.eq_1 := by_rfl f_trial_Plan_2_r4.eq_1
theorem e_trial_Plan_2_r5 : type_of% f_trial_Plan_2_r5.eq_1 := by_rfl f_trial_Plan_2_r5.eq_1
theorem e_trial_Plan_2_r6 : type_of% f_trial_Plan_2_r6.eq_1 := by_rfl f_trial_Plan_2_r6.eq_1
theorem e_trial_Plan_2_r7 : type_of% f_trial_Plan_2_r7.eq_1 := by_rfl f_trial_Plan_2_r7.eq_1
theorem e_trial_Plan_2_r8 : type_of% f_trial_Plan_2_r8.eq_1 := by_rfl f_trial_Plan_2_r8.eq_1
theorem e_trial_Plan_2_r9 : type_of% f_trial_Plan_2_r9.eq_1 := by_rfl f_trial_Plan_2_r9.eq_1
theorem e_trial_Plan_2_l10 : type_of% f_trial_Plan_2_l10.eq_1 := by_rfl f_trial_Plan_2_l10.eq_1
theorem e_trial_Plan_2_r11 : type_of% f_trial_Plan_2_r11.eq_1 := by_rfl f_trial_Plan_2_r11.eq_1
theorem e_trial_Plan_2_l12 : type_of% f_trial_Plan_2_l12.eq_1 := by_rfl f_trial_Plan_2_l12.eq_1
theorem e_trial_Plan_2_r13 : type_of% f_trial_Plan_2_r13.eq_1 := by_rfl f_trial_Plan_2_r13.eq_1
theorem e_trial_Plan_2 : type_of% f_trial_Plan_2.eq_1 := by_rfl f_trial_Plan_2.eq_1
theorem ok_trial_Plan_2 : fnC Try.prog a_trial_Plan_2 Try.f82 = some f_trial_Plan_2 := by kernel_rfl

/-! 83 fumarole/trial.Plan$3 -/
def f_trial_Plan_3_r0 : List Abs.Op := [
  ⟨some 8, none, false, .mv (.c (.bool false))⟩]

def f_trial_Plan_3_r1 : List Abs.Op := [
  ⟨some 10, none, false, .mv (.t 1)⟩,
  ⟨some 11, none, false, .bin .eql (.t 10) (.c (.int .i64 0))⟩]

def f_trial_Plan_3_r2 : List Abs.Op := [
  ⟨some 12, none, false, .ld false 1 (.t 2)⟩,
  ⟨some 13, none, false, .call false (.t 12) []⟩,
  ⟨some 8, none, false, .mv (.t 13)⟩]

def f_trial_Plan_3_r3 : List Abs.Op := [
  ⟨some 14, none, false, .mv (.t 0)⟩,
  ⟨some 9, none, false, .mv (.t 14)⟩]

def f_trial_Plan_3_r4 : List Abs.Op := [
  ⟨some 15, none, false, .mv (.t 9)⟩,
  ⟨some 16, none, false, .fadr 0 (.t 3)⟩,
  ⟨some 17, none, false, .ld false 1 (.t 16)⟩,
  ⟨some 18, none, false, .mv (.t 1)⟩,
  ⟨some 19, none, false, .bin .sub (.t 17) (.t 18)⟩,
  ⟨some 20, none, false, .bin .leq (.t 15) (.t 19)⟩]

def f_trial_Plan_3_r5 : List Abs.Op := [
  ⟨some 23, none, false, .ld false 1 (.t 4)⟩,
  ⟨some 24, none, false, .mv (.t 9)⟩,
  ⟨some 25, none, false, .bsi 1 1 [(.int .i64 0)] [(0, 1, (.t 24))]⟩,
  ⟨some 26, none, false, .app 1 8 (.t 23) (.t 25)⟩,
  ⟨none, none, false, .st [(0, 1)] 1 (.t 4) (.t 26)⟩]

def f_trial_Plan_3_r6 : List Abs.Op := [
  ⟨some 27, none, false, .ld false 1 (.t 5)⟩,
  ⟨some 28, none, false, .mv (.t 9)⟩,
  ⟨some 29, none, false, .bin .add (.t 28) (.c (.int .i64 1))⟩,
  ⟨some 30, none, false, .mv (.t 1)⟩,
  ⟨some 31, none, false, .bin .sub (.t 30) (.c (.int .i64 1))⟩,
  ⟨some 32, none, false, .call false (.t 27) [(.t 29), (.t 31)]⟩]

def f_trial_Plan_3_r7 : List Abs.Op := [
  ⟨some 8, none, false, .mv (.c (.bool true))⟩]

def f_trial_Plan_3_r8 : List Abs.Op := [
  ⟨some 33, none, false, .ld false 1 (.t 4)⟩,
  ⟨some 34, none, false, .ld false 1 (.t 4)⟩,
  ⟨some 35, none, false, .lenS (.t 34)⟩,
  ⟨some 36, none, false, .bin .sub (.t 35) (.c (.int .i64 1))⟩,
  ⟨some 37, none, false, .slc 1 (.t 33) none (some (.t 36)) none⟩,
  ⟨none, none, false, .st [(0, 1)] 1 (.t 4) (.t 37)⟩]

def f_trial_Plan_3_r9 : List Abs.Op := [
  ⟨some 21, none, false, .mv (.t 9)⟩,
  ⟨some 22, none, false, .bin .add (.t 21) (.c (.int .i64 1))⟩,
  ⟨some 9, none, false, .mv (.t 22)⟩]

def f_trial_Plan_3_l10 : Abs.Cmd :=
  (.seq (.seq (.reg [1, 3, 4, 5, 9, 20] f_trial_Plan_3_r4) (.ite (.t 20) .nop (.exit 0))) (.seq (.blk 1 (.seq (.reg [1, 3, 4, 5, 9] f_trial_Plan_3_r5) (.seq (.seq (.reg [1, 3, 4, 5, 9, 32] f_trial_Plan_3_r6) (.ite (.t 32) (.seq (.reg [8] f_trial_Plan_3_r7) .ret) .nop)) (.reg [1, 3, 4, 5, 9] f_trial_Plan_3_r8)))) (.reg [1, 3, 4, 5, 9] f_trial_Plan_3_r9)))

def f_trial_Plan_3_r11 : List Abs.Op := [
  ⟨some 8, none, false, .mv (.c (.bool false))⟩]

def a_trial_Plan_3 : Ann := ⟨[(10, [8]), (5, [1, 3, 4, 5, 9]), (9, [1, 3, 4, 5, 9]), (8, [8]), (7, [1, 3, 4, 5, 9, 32]), (6, [1, 3, 4, 5, 9]), (4, [1, 3, 4, 5, 9, 20]), (3, [1, 3, 4, 5, 9]), (2, [8]), (1, [0, 1, 2, 3, 4, 5, 11]), (0, [0, 1, 2, 3, 4, 5])], [(0, [1, 3, 4, 5, 9])], [], [4], [], [(6004, [(0, 1)]), (9005, [(0, 1)])], [], [], [], []⟩
def f_trial_Plan_3 : Abs.Fn := ⟨6, [.t 8],
  (.seq (.reg [0, 1, 2, 3, 4, 5] f_trial_Plan_3_r0) (.seq (.seq (.reg [0, 1, 2, 3, 4, 5, 11] f_trial_Plan_3_r1) (.ite (.t 11) (.seq (.reg [8] f_trial_Plan_3_r2) .ret) .nop)) (.seq (.seq (.reg [1, 3, 4, 5, 9] f_trial_Plan_3_r3) (.blk 0 (.loop [1, 3, 4, 5, 9] false f_trial_Plan_3_l10))) (.seq (.reg [8] f_trial_Plan_3_r11) .ret))))⟩

theorem e_trial_Plan_3_r0 : type_of% f_trial_Plan_3_r0.eq_1 := by_rfl f_trial_Plan_3_r0.eq_1
theorem e_trial_Plan_3_r1 : type_of% f_trial_Plan_3_r1.eq_1 := by_rfl f_trial_Plan_3_r1.eq_1
theorem e_trial_Plan_3_r2 : type_of% f_trial_Plan_3_r2.eq_1 := by_rfl f_trial_Plan_3_r2.eq_1
theorem e_trial_Plan_3_r3 : type_of% f_trial_Plan_3_r3.eq_1 := by_rfl f_trial_Plan_3_r3.eq_1
theorem e_trial_Plan_3_r4 : type_of% f_trial_Plan_3_r4.eq_1 := by_rfl f_trial_Plan_3_r4.eq_1
theorem e_trial_Plan_3_r5 : type_of% f_trial_Plan_3_r5.eq_1 := by_rfl f_trial_Plan_3_r5.eq_1
theorem e_trial_Plan_3_r6 : type_of% f_trial_Plan_3_r6.eq_1 := by_rfl f_trial_Plan_3_r6.eq_1
theorem e_trial_Plan_3_r7 : type_of% f_trial_Plan_3_r7.eq_1 := by_rfl f_trial_Plan_3_r7.eq_1
theorem e_trial_Plan_3_r8 : type_of% f_trial_Plan_3_r8.eq_1 := by_rfl f_trial_Plan_3_r8.eq_1
theorem e_trial_Plan_3_r9 : type_of% f_trial_Plan_3_r9.eq_1 := by_rfl f_trial_Plan_3_r9.eq_1
theorem e_trial_Plan_3_l10 : type_of% f_trial_Plan_3_l10.eq_1 := by_rfl f_trial_Plan_3_l10.eq_1
theorem e_trial_Plan_3_r11 : type_of% f_trial_Plan_3_r11.eq_1 := by_rfl f_trial_Plan_3_r11.eq_1
theorem e_trial_Plan_3 : type_of% f_trial_Plan_3.eq_1 := by_rfl f_trial_Plan_3.eq_1
theorem ok_trial_Plan_3 : fnC Try.prog a_trial_Plan_3 Try.f83 = some f_trial_Plan_3 := by kernel_rfl

/-! 88 (fumarole/trial.Test).rooms -/
def f_trial_Test_rooms_r0 : List Abs.Op := [
  ⟨some 1, none, false, .boxi (.t 0)⟩,
  ⟨some 2, none, false, .mv (.c .nilf)⟩]

def f_trial_Test_rooms_r1 : List Abs.Op := [
  ⟨some 3, none, false, .mkf i_trial_Test_rooms_1 [] [(.t 1)]⟩,
  ⟨some 2, none, false, .mv (.t 3)⟩]

def a_trial_Test_rooms : Ann := ⟨[(1, [2]), (0, [1])], [], [], [], [], [], [], [], [], []⟩
def f_trial_Test_rooms : Abs.Fn := ⟨1, [.t 2],
  (.seq (.reg [1] f_trial_Test_rooms_r0) (.seq (.reg [2] f_trial_Test_rooms_r1) .ret))⟩

theorem e_trial_Test_rooms_r0 : type_of% f_trial_Test_rooms_r0.eq_1 := by_rfl f_trial_Test_rooms_r0.eq_1
theorem e_trial_Test_rooms_r1 : type_of% f_trial_Test_rooms_r1.eq_1 := by_rfl f_trial_Test_rooms_r1.eq_1
theorem e_trial_Test_rooms : type_of% f_trial_Test_rooms.eq_1 := by_rfl f_trial_Test_rooms.eq_1
theorem ok_trial_Test_rooms : fnC Try.prog a_trial_Test_rooms Try.f88 = some f_trial_Test_rooms := by kernel_rfl

/-! 94 (fumarole/trial.Survey).fits -/
def f_trial_Survey_fits_r0 : List Abs.Op := [
  ⟨some 2, none, false, .boxi (.t 0)⟩,
  ⟨some 4, none, false, .mv (.c (.bool false))⟩]

def f_trial_Survey_fits_r1 : List Abs.Op := [
  ⟨some 8, none, false, .fadr 2 (.t 2)⟩,
  ⟨some 9, none, false, .ld false 1 (.t 8)⟩,
  ⟨some 10, none, false, .lenS (.t 9)⟩,
  ⟨some 11, none, false, .mv (.c (.int .i64 0))⟩]

def f_trial_Survey_fits_r2 : List Abs.Op := [
  ⟨some 12, none, false, .bin .lss (.t 11) (.t 10)⟩]

def f_trial_Survey_fits_r3 : List Abs.Op := [
  ⟨some 13, none, false, .idxS 4 (.t 9) (.t 11)⟩,
  ⟨some 14, none, false, .ld true 4 (.t 13)⟩,
  ⟨some 6, none, false, .alcv [] [(.int .i64 0), (.int .i64 0), (.int .i64 0), (.int .i64 0)]⟩,
  ⟨none, none, false, .stv 6 [] 4 6 (.t 14)⟩]

def f_trial_Survey_fits_r4 : List Abs.Op := [
  ⟨some 15, none, true, .mv (.t 1)⟩,
  ⟨some 16, none, true, .fadr 0 (.t 6)⟩,
  ⟨some 17, none, true, .ldv 6 false 1 16⟩,
  ⟨some 18, none, true, .idxS 1 (.t 15) (.t 17)⟩,
  ⟨some 19, none, true, .ld false 1 (.t 18)⟩,
  ⟨some 20, none, true, .mv (.t 1)⟩,
  ⟨some 21, none, true, .fadr 1 (.t 6)⟩,
  ⟨some 22, none, true, .ldv 6 false 1 21⟩,
  ⟨some 23, none, true, .idxS 1 (.t 20) (.t 22)⟩,
  ⟨some 24, none, true, .ld false 1 (.t 23)⟩,
  ⟨some 25, none, false, .bin .eql (.t 19) (.t 24)⟩,
  ⟨some 7, none, false, .mv (.t 25)⟩]

def f_trial_Survey_fits_r5 : List Abs.Op := [
  ⟨some 26, none, false, .ld true 3 (.t 2)⟩,
  ⟨some 27, none, false, .ldv 6 true 4 6⟩,
  ⟨some 28, none, false, .call false (.c (.fn i_trial_Survey_joined [] [])) [(.t 26), (.t 27)]⟩,
  ⟨some 29, none, false, .mv (.t 28)⟩,
  ⟨some 30, some (29, true), false, .mv (.t 7)⟩,
  ⟨some 31, some (29, true), false, .un .not (.t 30)⟩,
  ⟨some 32, none, false, .pick (.t 29) (.t 31) (.c (.bool false))⟩,
  ⟨some 33, none, false, .mv (.t 32)⟩,
  ⟨some 34, some (33, false), false, .ld true 3 (.t 2)⟩,
  ⟨some 35, some (33, false), false, .ldv 6 true 4 6⟩,
  ⟨some 36, some (33, false), false, .call false (.c (.fn i_trial_Survey_apart [] [])) [(.t 34), (.t 35)]⟩,
  ⟨some 37, some (33, false), false, .mv (.t 36)⟩,
  ⟨some 38, some (37, true), false, .mv (.t 7)⟩,
  ⟨some 39, some (33, false), false, .pick (.t 37) (.t 38) (.c (.bool false))⟩,
  ⟨some 40, none, false, .pick (.t 33) (.c (.bool true)) (.t 39)⟩]

def f_trial_Survey_fits_r6 : List Abs.Op := [
  ⟨some 4, none, false, .mv (.c (.bool false))⟩]

def f_trial_Survey_fits_r7 : List Abs.Op := [
  ⟨some 41, none, false, .bin .add (.t 11) (.c (.int .i64 1))⟩,
  ⟨some 11, none, false, .mv (.t 41)⟩]

def f_trial_Survey_fits_l8 : Abs.Cmd :=
  (.seq (.reg [1, 2, 9, 10, 11, 12] f_trial_Survey_fits_r2) (.seq (.ite (.t 12) .nop (.exit 0)) (.seq (.blk 1 (.seq (.reg [1, 2, 6, 9, 10, 11] f_trial_Survey_fits_r3) (.seq (.reg [1, 2, 6, 7, 9, 10, 11] f_trial_Survey_fits_r4) (.seq (.reg [1, 2, 9, 10, 11, 40] f_trial_Survey_fits_r5) (.ite (.t 40) (.seq (.reg [4] f_trial_Survey_fits_r6) .ret) .nop))))) (.reg [1, 2, 9, 10, 11] f_trial_Survey_fits_r7))))

def f_trial_Survey_fits_r9 : List Abs.Op := [
  ⟨some 4, none, false, .mv (.c (.bool true))⟩]

def a_trial_Survey_fits : Ann := ⟨[(8, [4]), (7, [1, 2, 9, 10, 11]), (6, [4]), (5, [1, 2, 9, 10, 11, 40]), (4, [1, 2, 6, 7, 9, 10, 11]), (3, [1, 2, 6, 9, 10, 11]), (2, [1, 2, 9, 10, 11, 12]), (1, [1, 2, 9, 10, 11]), (0, [1, 2])], [(0, [1, 2, 9, 10, 11])], [], [6], [6], [], [], [], [], []⟩
def f_trial_Survey_fits : Abs.Fn := ⟨2, [.t 4],
  (.seq (.reg [1, 2] f_trial_Survey_fits_r0) (.seq (.seq (.reg [1, 2, 9, 10, 11] f_trial_Survey_fits_r1) (.blk 0 (.loop [1, 2, 9, 10, 11] false f_trial_Survey_fits_l8))) (.seq (.reg [4] f_trial_Survey_fits_r9) .ret)))⟩

theorem e_trial_Survey_fits_r0 : type_of% f_trial_Survey_fits_r0.eq_1 := by_rfl f_trial_Survey_fits_r0.eq_1
theorem e_trial_Survey_fits_r1 : type_of% f_trial_Survey_fits_r1.eq_1 := by_rfl f_trial_Survey_fits_r1.eq_1
theorem e_trial_Survey_fits_r2 : type_of% f_trial_Survey_fits_r2.eq_1 := by_rfl f_trial_Survey_fits_r2.eq_1
theorem e_trial_Survey_fits_r3 : type_of% f_trial_Survey_fits_r3.eq_1 := by_rfl f_trial_Survey_fits_r3.eq_1
theorem e_trial_Survey_fits_r4 : type_of% f_trial_Survey_fits_r4.eq_1 := by_rfl f_trial_Survey_fits_r4.eq_1
theorem e_trial_Survey_fits_r5 : type_of% f_trial_Survey_fits_r5.eq_1 := by_rfl f_trial_Survey_fits_r5.eq_1
theorem e_trial_Survey_fits_r6 : type_of% f_trial_Survey_fits_r6.eq_1 := by_rfl f_trial_Survey_fits_r6.eq_1
theorem e_trial_Survey_fits_r7 : type_of% f_trial_Survey_fits_r7.eq_1 := by_rfl f_trial_Survey_fits_r7.eq_1
theorem e_trial_Survey_fits_l8 : type_of% f_trial_Survey_fits_l8.eq_1 := by_rfl f_trial_Survey_fits_l8.eq_1
theorem e_trial_Survey_fits_r9 : type_of% f_trial_Survey_fits_r9.eq_1 := by_rfl f_trial_Survey_fits_r9.eq_1
theorem e_trial_Survey_fits : type_of% f_trial_Survey_fits.eq_1 := by_rfl f_trial_Survey_fits.eq_1
theorem ok_trial_Survey_fits : fnC Try.prog a_trial_Survey_fits Try.f94 = some f_trial_Survey_fits := by kernel_rfl

/-! 95 fumarole/fumaroleref04.Sure -/
def f_ref04_Sure_r0 : List Abs.Op := [
  ⟨some 2, none, false, .boxi (.t 0)⟩,
  ⟨some 3, none, false, .boxi (.t 1)⟩,
  ⟨some 4, none, false, .mv (.c (.bool false))⟩]

def f_ref04_Sure_r1 : List Abs.Op := [
  ⟨some 5, none, false, .fadr 2 (.t 3)⟩,
  ⟨some 6, none, false, .fadr 0 (.t 5)⟩,
  ⟨some 7, none, false, .ld false 1 (.t 6)⟩,
  ⟨some 8, none, false, .fadr 1 (.t 2)⟩,
  ⟨some 9, none, false, .ld false 1 (.t 8)⟩,
  ⟨some 10, none, false, .bin .geq (.t 7) (.t 9)⟩,
  ⟨some 4, none, false, .mv (.t 10)⟩]

def a_ref04_Sure : Ann := ⟨[(1, [4]), (0, [2, 3])], [], [], [], [], [], [], [], [], []⟩
def f_ref04_Sure : Abs.Fn := ⟨2, [.t 4],
  (.seq (.reg [2, 3] f_ref04_Sure_r0) (.seq (.reg [4] f_ref04_Sure_r1) .ret))⟩

theorem e_ref04_Sure_r0 : type_of% f_ref04_Sure_r0.eq_1 := by_rfl f_ref04_Sure_r0.eq_1
theorem e_ref04_Sure_r1 : type_of% f_ref04_Sure_r1.eq_1 := by_rfl f_ref04_Sure_r1.eq_1
theorem e_ref04_Sure : type_of% f_ref04_Sure.eq_1 := by_rfl f_ref04_Sure.eq_1
theorem ok_ref04_Sure : fnC Try.prog a_ref04_Sure Try.f95 = some f_ref04_Sure := by kernel_rfl

/-! 97 (fumarole/trial.Range).less -/
def f_trial_Range_less_r0 : List Abs.Op := [
  ⟨some 2, none, false, .boxi (.t 0)⟩,
  ⟨some 4, none, false, .alcv [] [(.int .i64 0), (.int .i64 0)]⟩]

def f_trial_Range_less_r1 : List Abs.Op := [
  ⟨some 5, none, false, .fadr 0 (.t 2)⟩,
  ⟨some 6, none, false, .ld false 1 (.t 5)⟩,
  ⟨some 7, none, false, .mv (.t 1)⟩,
  ⟨some 8, none, false, .bin .sub (.t 6) (.t 7)⟩,
  ⟨some 9, none, false, .fadr 1 (.t 2)⟩,
  ⟨some 10, none, false, .ld false 1 (.t 9)⟩,
  ⟨some 11, none, false, .mv (.t 1)⟩,
  ⟨some 12, none, false, .bin .sub (.t 10) (.t 11)⟩,
  ⟨some 13, none, false, .bld [(.int .i64 0), (.int .i64 0)] [(0, 1, (.t 8)), (1, 1, (.t 12))]⟩,
  ⟨none, none, false, .stv 4 [] 2 4 (.t 13)⟩]

def a_trial_Range_less : Ann := ⟨[(1, [4]), (0, [1, 2, 4])], [], [], [4], [4], [], [], [], [], []⟩
def f_trial_Range_less : Abs.Fn := ⟨2, [.v 4 true 2],
  (.seq (.reg [1, 2, 4] f_trial_Range_less_r0) (.seq (.reg [4] f_trial_Range_less_r1) .ret))⟩

theorem e_trial_Range_less_r0 : type_of% f_trial_Range_less_r0.eq_1 := by_rfl f_trial_Range_less_r0.eq_1
theorem e_trial_Range_less_r1 : type_of% f_trial_Range_less_r1.eq_1 := by_rfl f_trial_Range_less_r1.eq_1
theorem e_trial_Range_less : type_of% f_trial_Range_less.eq_1 := by_rfl f_trial_Range_less.eq_1
theorem ok_trial_Range_less : fnC Try.prog a_trial_Range_less Try.f97 = some f_trial_Range_less := by kernel_rfl

/-! 99 (fumarole/trial.Survey).groups -/
def f_trial_Survey_groups_r0 : List Abs.Op := [
  ⟨some 1, none, false, .boxi (.t 0)⟩,
  ⟨some 2, none, false, .alcv [] [(.int .i64 0), (.int .i64 0), .nils, (.int .i64 0), (.int .i64 0), (.int .i64 0), (.int .i64 0), (.int .i64 0), (.int .i64 0), (.int .i64 0), (.int .i64 0), (.int .i64 0), (.int .i64 0)]⟩]

def f_trial_Survey_groups_r1 : List Abs.Op := [
  ⟨some 9, none, false, .ld true 3 (.t 1)⟩,
  ⟨some 10, none, false, .bld [(.int .i64 0), (.int .i64 0), .nils, (.int .i64 0), (.int .i64 0), (.int .i64 0), (.int .i64 0), (.int .i64 0), (.int .i64 0), (.int .i64 0), (.int .i64 0), (.int .i64 0), (.int .i64 0)] [(0, 3, (.t 9))]⟩,
  ⟨some 3, none, false, .alcv [] [(.int .i64 0), (.int .i64 0), .nils, (.int .i64 0), (.int .i64 0), (.int .i64 0), (.int .i64 0), (.int .i64 0), (.int .i64 0), (.int .i64 0), (.int .i64 0), (.int .i64 0), (.int .i64 0)]⟩,
  ⟨none, none, false, .stv 3 [] 13 3 (.t 10)⟩]

def f_trial_Survey_groups_r2 : List Abs.Op := [
  ⟨some 11, none, false, .mv (.c (.int .i64 0))⟩]

def f_trial_Survey_groups_r3 : List Abs.Op := [
  ⟨some 12, none, false, .bin .lss (.t 11) (.c (.int .i64 10))⟩]

def f_trial_Survey_groups_r4 : List Abs.Op := [
  ⟨some 13, none, false, .mv (.t 11)⟩,
  ⟨some 4, none, false, .mv (.t 13)⟩]

def f_trial_Survey_groups_r5 : List Abs.Op := [
  ⟨some 14, none, false, .mv (.t 4)⟩,
  ⟨some 15, none, false, .mv (.t 4)⟩,
  ⟨some 16, none, false, .fadr 3 (.t 3)⟩,
  ⟨some 17, none, false, .idxA 10 1 (.t 16) (.t 14)⟩,
  ⟨none, none, false, .stv 3 [] 1 17 (.t 15)⟩]

def f_trial_Survey_groups_r6 : List Abs.Op := [
  ⟨some 18, none, false, .bin .add (.t 11) (.c (.int .i64 1))⟩,
  ⟨some 11, none, false, .mv (.t 18)⟩]

def f_trial_Survey_groups_l7 : Abs.Cmd :=
  (.seq (.reg [1, 2, 3, 11, 12] f_trial_Survey_groups_r3) (.seq (.ite (.t 12) .nop (.exit 0)) (.seq (.blk 1 (.seq (.reg [1, 2, 3, 4, 11] f_trial_Survey_groups_r4) (.reg [1, 2, 3, 11] f_trial_Survey_groups_r5))) (.reg [1, 2, 3, 11] f_trial_Survey_groups_r6))))

def f_trial_Survey_groups_r8 : List Abs.Op := [
  ⟨some 19, none, false, .fadr 3 (.t 3)⟩,
  ⟨some 20, none, false, .ldv 3 true 10 19⟩,
  ⟨some 5, none, false, .alcv [] [(.int .i64 0), (.int .i64 0), (.int .i64 0), (.int .i64 0), (.int .i64 0), (.int .i64 0), (.int .i64 0), (.int .i64 0), (.int .i64 0), (.int .i64 0)]⟩,
  ⟨none, none, false, .stv 5 [] 10 5 (.t 20)⟩]

def f_trial_Survey_groups_r9 : List Abs.Op := [
  ⟨some 21, none, false, .fadr 2 (.t 1)⟩,
  ⟨some 22, none, false, .ld false 1 (.t 21)⟩,
  ⟨some 23, none, false, .lenS (.t 22)⟩,
  ⟨some 24, none, false, .mv (.c (.int .i64 0))⟩]

def f_trial_Survey_groups_r10 : List Abs.Op := [
  ⟨some 25, none, false, .bin .lss (.t 24) (.t 23)⟩]

def f_trial_Survey_groups_r11 : List Abs.Op := [
  ⟨some 26, none, false, .idxS 4 (.t 22) (.t 24)⟩,
  ⟨some 27, none, false, .ld true 4 (.t 26)⟩,
  ⟨some 7, none, false, .alcv [] [(.int .i64 0), (.int .i64 0), (.int .i64 0), (.int .i64 0)]⟩,
  ⟨none, none, false, .stv 7 [] 4 7 (.t 27)⟩]

def f_trial_Survey_groups_r12 : List Abs.Op := [
  ⟨some 28, none, false, .ld true 3 (.t 1)⟩,
  ⟨some 29, none, false, .ldv 7 true 4 7⟩,
  ⟨some 30, none, false, .call false (.c (.fn i_trial_Survey_joined [] [])) [(.t 28), (.t 29)]⟩]

def f_trial_Survey_groups_r13 : List Abs.Op := [
  ⟨some 31, none, true, .fadr 0 (.t 7)⟩,
  ⟨some 32, none, true, .ldv 7 false 1 31⟩,
  ⟨some 33, none, true, .fadr 3 (.t 3)⟩,
  ⟨some 34, none, true, .idxA 10 1 (.t 33) (.t 32)⟩,
  ⟨some 35, none, true, .ldv 3 false 1 34⟩,
  ⟨some 36, none, true, .fadr 1 (.t 7)⟩,
  ⟨some 37, none, true, .ldv 7 false 1 36⟩,
  ⟨some 38, none, true, .fadr 3 (.t 3)⟩,
  ⟨some 39, none, true, .idxA 10 1 (.t 38) (.t 37)⟩,
  ⟨some 40, none, true, .ldv 3 false 1 39⟩,
  ⟨some 41, none, false, .mn (.t 35) (.t 40)⟩,
  ⟨some 8, none, false, .mv (.t 41)⟩]

def f_trial_Survey_groups_r14 : List Abs.Op := [
  ⟨some 42, none, true, .fadr 0 (.t 7)⟩,
  ⟨some 43, none, true, .ldv 7 false 1 42⟩,
  ⟨some 44, none, true, .fadr 1 (.t 7)⟩,
  ⟨some 45, none, true, .ldv 7 false 1 44⟩,
  ⟨some 46, none, true, .mv (.t 8)⟩,
  ⟨some 47, none, true, .mv (.t 8)⟩,
  ⟨some 48, none, true, .fadr 3 (.t 3)⟩,
  ⟨some 49, none, true, .idxA 10 1 (.t 48) (.t 43)⟩,
  ⟨none, none, true, .stv 3 [] 1 49 (.t 46)⟩,
  ⟨some 50, none, true, .fadr 3 (.t 3)⟩,
  ⟨some 51, none, false, .idxA 10 1 (.t 50) (.t 45)⟩,
  ⟨none, none, false, .stv 3 [] 1 51 (.t 47)⟩]

def f_trial_Survey_groups_r15 : List Abs.Op := [
  ⟨some 52, none, false, .bin .add (.t 24) (.c (.int .i64 1))⟩,
  ⟨some 24, none, false, .mv (.t 52)⟩]

def f_trial_Survey_groups_l16 : Abs.Cmd :=
  (.seq (.reg [1, 2, 3, 5, 22, 23, 24, 25] f_trial_Survey_groups_r10) (.seq (.ite (.t 25) .nop (.exit 4)) (.seq (.blk 5 (.seq (.reg [1, 2, 3, 5, 7, 22, 23, 24] f_trial_Survey_groups_r11) (.seq (.reg [1, 2, 3, 5, 7, 22, 23, 24, 30] f_trial_Survey_groups_r12) (.ite (.t 30) (.seq (.reg [1, 2, 3, 5, 7, 8, 22, 23, 24] f_trial_Survey_groups_r13) (.reg [1, 2, 3, 5, 22, 23, 24] f_trial_Survey_groups_r14)) .nop)))) (.reg [1, 2, 3, 5, 22, 23, 24] f_trial_Survey_groups_r15))))

def f_trial_Survey_groups_r17 : List Abs.Op := [
  ⟨some 53, none, false, .fadr 3 (.t 3)⟩,
  ⟨some 54, none, false, .ldv 3 true 10 53⟩,
  ⟨some 55, none, false, .ldv 5 true 10 5⟩,
  ⟨some 56, none, false, .eqv true [some .i64, some .i64, some .i64, some .i64, some .i64, some .i64, some .i64, some .i64, some .i64, some .i64] false (.t 54) (.t 55)⟩]

def f_trial_Survey_groups_r18 : List Abs.Op := [
  ⟨some 57, none, false, .ldv 3 true 13 3⟩,
  ⟨none, none, false, .stv 2 [] 13 2 (.t 57)⟩]

def f_trial_Survey_groups_l19 : Abs.Cmd :=
  (.blk 3 (.seq (.reg [1, 2, 3, 5] f_trial_Survey_groups_r8) (.seq (.seq (.reg [1, 2, 3, 5, 22, 23, 24] f_trial_Survey_groups_r9) (.blk 4 (.loop [1, 2, 3, 5, 22, 23, 24] false f_trial_Survey_groups_l16))) (.seq (.reg [1, 2, 3, 56] f_trial_Survey_groups_r17) (.ite (.t 56) (.seq (.reg [2] f_trial_Survey_groups_r18) .ret) .nop)))))

def a_trial_Survey_groups : Ann := ⟨[(16, [2]), (15, [1, 2, 3, 56]), (14, [1, 2, 3, 5, 22, 23, 24]), (13, [1, 2, 3, 5, 22, 23, 24]), (12, [1, 2, 3, 5, 7, 8, 22, 23, 24]), (11, [1, 2, 3, 5, 7, 22, 23, 24, 30]), (10, [1, 2, 3, 5, 7, 22, 23, 24]), (9, [1, 2, 3, 5, 22, 23, 24, 25]), (8, [1, 2, 3, 5, 22, 23, 24]), (7, [1, 2, 3, 5]), (6, [1, 2, 3, 11]), (5, [1, 2, 3, 11]), (4, [1, 2, 3, 4, 11]), (3, [1, 2, 3, 11, 12]), (2, [1, 2, 3, 11]), (1, [1, 2, 3]), (0, [1, 2])], [(4, [1, 2, 3, 5, 22, 23, 24]), (2, [1, 2, 3]), (0, [1, 2, 3, 11])], [], [2, 3, 5, 7], [2, 3, 5, 7], [], [], [], [], []⟩
def f_trial_Survey_groups : Abs.Fn := ⟨1, [.v 2 true 13],
  (.seq (.reg [1, 2] f_trial_Survey_groups_r0) (.seq (.reg [1, 2, 3] f_trial_Survey_groups_r1) (.seq (.seq (.reg [1, 2, 3, 11] f_trial_Survey_groups_r2) (.blk 0 (.loop [1, 2, 3, 11] false f_trial_Survey_groups_l7))) (.blk 2 (.loop [1, 2, 3] false f_trial_Survey_groups_l19)))))⟩

theorem e_trial_Survey_groups_r0 : type_of% f_trial_Survey_groups_r0.eq_1 := by_rfl f_trial_Survey_groups_r0.eq_1
theorem e_trial_Survey_groups_r1 : type_of% f_trial_Survey_groups_r1.eq_1 := by_rfl f_trial_Survey_groups_r1.eq_1
theorem e_trial_Survey_groups_r2 : type_of% f_trial_Survey_groups_r2.eq_1 := by_rfl f_trial_Survey_groups_r2.eq_1
theorem e_trial_Survey_groups_r3 : type_of% f_trial_Survey_groups_r3.eq_1 := by_rfl f_trial_Survey_groups_r3.eq_1
theorem e_trial_Survey_groups_r4 : type_of% f_trial_Survey_groups_r4.eq_1 := by_rfl f_trial_Survey_groups_r4.eq_1
theorem e_trial_Survey_groups_r5 : type_of% f_trial_Survey_groups_r5.eq_1 := by_rfl f_trial_Survey_groups_r5.eq_1
theorem e_trial_Survey_groups_r6 : type_of% f_trial_Survey_groups_r6.eq_1 := by_rfl f_trial_Survey_groups_r6.eq_1
theorem e_trial_Survey_groups_l7 : type_of% f_trial_Survey_groups_l7.eq_1 := by_rfl f_trial_Survey_groups_l7.eq_1
theorem e_trial_Survey_groups_r8 : type_of% f_trial_Survey_groups_r8.eq_1 := by_rfl f_trial_Survey_groups_r8.eq_1
theorem e_trial_Survey_groups_r9 : type_of% f_trial_Survey_groups_r9.eq_1 := by_rfl f_trial_Survey_groups_r9.eq_1
theorem e_trial_Survey_groups_r10 : type_of% f_trial_Survey_groups_r10.eq_1 := by_rfl f_trial_Survey_groups_r10.eq_1
theorem e_trial_Survey_groups_r11 : type_of% f_trial_Survey_groups_r11.eq_1 := by_rfl f_trial_Survey_groups_r11.eq_1
theorem e_trial_Survey_groups_r12 : type_of% f_trial_Survey_groups_r12.eq_1 := by_rfl f_trial_Survey_groups_r12.eq_1
theorem e_trial_Survey_groups_r13 : type_of% f_trial_Survey_groups_r13.eq_1 := by_rfl f_trial_Survey_groups_r13.eq_1
theorem e_trial_Survey_groups_r14 : type_of% f_trial_Survey_groups_r14.eq_1 := by_rfl f_trial_Survey_groups_r14.eq_1
theorem e_trial_Survey_groups_r15 : type_of% f_trial_Survey_groups_r15.eq_1 := by_rfl f_trial_Survey_groups_r15.eq_1
theorem e_trial_Survey_groups_l16 : type_of% f_trial_Survey_groups_l16.eq_1 := by_rfl f_trial_Survey_groups_l16.eq_1
theorem e_trial_Survey_groups_r17 : type_of% f_trial_Survey_groups_r17.eq_1 := by_rfl f_trial_Survey_groups_r17.eq_1
theorem e_trial_Survey_groups_r18 : type_of% f_trial_Survey_groups_r18.eq_1 := by_rfl f_trial_Survey_groups_r18.eq_1
theorem e_trial_Survey_groups_l19 : type_of% f_trial_Survey_groups_l19.eq_1 := by_rfl f_trial_Survey_groups_l19.eq_1
theorem e_trial_Survey_groups : type_of% f_trial_Survey_groups.eq_1 := by_rfl f_trial_Survey_groups.eq_1
theorem ok_trial_Survey_groups : fnC Try.prog a_trial_Survey_groups Try.f99 = some f_trial_Survey_groups := by kernel_rfl

/-! 100 slices.Clone[[]int,int] -/
def f_slices_Clone_int_r0 : List Abs.Op := [
  ⟨some 2, none, false, .mv (.c .nils)⟩]

def f_slices_Clone_int_r1 : List Abs.Op := [
  ⟨some 3, none, false, .mv (.t 0)⟩,
  ⟨some 4, none, false, .isn false false (.t 3)⟩]

def f_slices_Clone_int_r2 : List Abs.Op := [
  ⟨some 2, none, false, .mv (.c .nils)⟩]

def f_slices_Clone_int_r3 : List Abs.Op := [
  ⟨some 5, none, false, .bsm 0 1 [] []⟩,
  ⟨some 6, none, false, .mv (.t 0)⟩,
  ⟨some 7, none, false, .app 1 8 (.t 5) (.t 6)⟩,
  ⟨some 2, none, false, .mv (.t 7)⟩]

def a_slices_Clone_int : Ann := ⟨[(3, [2]), (2, [2]), (1, [0, 4]), (0, [0])], [], [], [5], [], [], [], [], [], []⟩
def f_slices_Clone_int : Abs.Fn := ⟨1, [.t 2],
  (.seq (.reg [0] f_slices_Clone_int_r0) (.seq (.seq (.reg [0, 4] f_slices_Clone_int_r1) (.ite (.t 4) (.seq (.reg [2] f_slices_Clone_int_r2) .ret) .nop)) (.seq (.reg [2] f_slices_Clone_int_r3) .ret)))⟩

theorem e_slices_Clone_int_r0 : type_of% f_slices_Clone_int_r0.eq_1 := by_rfl f_slices_Clone_int_r0.eq_1
theorem e_slices_Clone_int_r1 : type_of% f_slices_Clone_int_r1.eq_1 := by_rfl f_slices_Clone_int_r1.eq_1
theorem e_slices_Clone_int_r2 : type_of% f_slices_Clone_int_r2.eq_1 := by_rfl f_slices_Clone_int_r2.eq_1
theorem e_slices_Clone_int_r3 : type_of% f_slices_Clone_int_r3.eq_1 := by_rfl f_slices_Clone_int_r3.eq_1
theorem e_slices_Clone_int : type_of% f_slices_Clone_int.eq_1 := by_rfl f_slices_Clone_int.eq_1
theorem ok_slices_Clone_int : fnC Try.prog a_slices_Clone_int Try.f100 = some f_slices_Clone_int := by kernel_rfl

/-! 101 (fumarole/trial.parted).clash -/
def f_trial_parted_clash_r0 : List Abs.Op := [
  ⟨some 1, none, false, .boxi (.t 0)⟩,
  ⟨some 2, none, false, .mv (.c (.int .i64 0))⟩]

def f_trial_parted_clash_r1 : List Abs.Op := [
  ⟨some 3, none, false, .fadr 0 (.t 1)⟩,
  ⟨some 4, none, false, .fadr 2 (.t 3)⟩,
  ⟨some 5, none, false, .ld false 1 (.t 4)⟩,
  ⟨some 6, none, false, .mkf i_trial_parted_clash_1 [] [(.t 1)]⟩,
  ⟨some 7, none, false, .call false (.c (.fn i_slices_IndexFunc_trial_Seen [] [])) [(.t 5), (.t 6)]⟩,
  ⟨some 2, none, false, .mv (.t 7)⟩]

def a_trial_parted_clash : Ann := ⟨[(1, [2]), (0, [1])], [], [], [], [], [], [], [], [], []⟩
def f_trial_parted_clash : Abs.Fn := ⟨1, [.t 2],
  (.seq (.reg [1] f_trial_parted_clash_r0) (.seq (.reg [2] f_trial_parted_clash_r1) .ret))⟩

theorem e_trial_parted_clash_r0 : type_of% f_trial_parted_clash_r0.eq_1 := by_rfl f_trial_parted_clash_r0.eq_1
theorem e_trial_parted_clash_r1 : type_of% f_trial_parted_clash_r1.eq_1 := by_rfl f_trial_parted_clash_r1.eq_1
theorem e_trial_parted_clash : type_of% f_trial_parted_clash.eq_1 := by_rfl f_trial_parted_clash.eq_1
theorem ok_trial_parted_clash : fnC Try.prog a_trial_parted_clash Try.f101 = some f_trial_parted_clash := by kernel_rfl

/-! 102 (fumarole/trial.Survey).way -/
def f_trial_Survey_way_r0 : List Abs.Op := [
  ⟨some 3, none, false, .boxi (.t 0)⟩,
  ⟨some 6, none, false, .mv (.c .nils)⟩]

def f_trial_Survey_way_r1 : List Abs.Op := [
  ⟨some 15, none, false, .fadr 0 (.t 3)⟩,
  ⟨some 16, none, false, .ld false 1 (.t 15)⟩,
  ⟨some 17, none, false, .mks 1 8 [(.int .i64 0)] (.t 16) (.t 16)⟩,
  ⟨some 7, none, false, .alc [] [.nils]⟩,
  ⟨none, none, false, .st [] 1 (.t 7) (.t 17)⟩]

def f_trial_Survey_way_r2 : List Abs.Op := [
  ⟨some 18, none, false, .ld false 1 (.t 7)⟩,
  ⟨some 19, none, false, .lenS (.t 18)⟩,
  ⟨some 20, none, false, .mv (.c (.int .i64 0))⟩]

def f_trial_Survey_way_r3 : List Abs.Op := [
  ⟨some 21, none, false, .bin .lss (.t 20) (.t 19)⟩]

def f_trial_Survey_way_r4 : List Abs.Op := [
  ⟨some 22, none, false, .mv (.t 20)⟩,
  ⟨some 8, none, false, .mv (.t 22)⟩]

def f_trial_Survey_way_r5 : List Abs.Op := [
  ⟨some 23, none, false, .ld false 1 (.t 7)⟩,
  ⟨some 24, none, false, .mv (.t 8)⟩,
  ⟨some 25, none, false, .fadr 0 (.t 3)⟩,
  ⟨some 26, none, false, .ld false 1 (.t 25)⟩,
  ⟨some 27, none, false, .idxS 1 (.t 23) (.t 24)⟩,
  ⟨none, none, false, .st [] 1 (.t 27) (.t 26)⟩]

def f_trial_Survey_way_r6 : List Abs.Op := [
  ⟨some 28, none, false, .bin .add (.t 20) (.c (.int .i64 1))⟩,
  ⟨some 20, none, false, .mv (.t 28)⟩]

def f_trial_Survey_way_l7 : Abs.Cmd :=
  (.seq (.reg [1, 2, 3, 7, 19, 20, 21] f_trial_Survey_way_r3) (.seq (.ite (.t 21) .nop (.exit 0)) (.seq (.blk 1 (.seq (.reg [1, 2, 3, 7, 8, 19, 20] f_trial_Survey_way_r4) (.reg [1, 2, 3, 7, 19, 20] f_trial_Survey_way_r5))) (.reg [1, 2, 3, 7, 19, 20] f_trial_Survey_way_r6))))

def f_trial_Survey_way_r8 : List Abs.Op := [
  ⟨some 29, none, false, .ld false 1 (.t 7)⟩,
  ⟨some 30, none, false, .mv (.t 2)⟩,
  ⟨some 31, none, false, .idxS 1 (.t 29) (.t 30)⟩,
  ⟨none, none, false, .st [] 1 (.t 31) (.c (.int .i64 0))⟩]

def f_trial_Survey_way_r9 : List Abs.Op := [
  ⟨some 32, none, false, .mv (.t 2)⟩,
  ⟨some 33, none, false, .bsm 1 1 [(.int .i64 0)] [(0, 1, (.t 32))]⟩,
  ⟨some 9, none, false, .mv (.t 33)⟩]

def f_trial_Survey_way_r10 : List Abs.Op := [
  ⟨some 34, none, false, .mv (.t 9)⟩,
  ⟨some 35, none, false, .lenS (.t 34)⟩,
  ⟨some 36, none, false, .bin .gtr (.t 35) (.c (.int .i64 0))⟩]

def f_trial_Survey_way_r11 : List Abs.Op := [
  ⟨some 39, none, true, .ld true 3 (.t 3)⟩,
  ⟨some 40, none, true, .mv (.t 9)⟩,
  ⟨some 41, none, true, .idxS 1 (.t 40) (.c (.int .i64 0))⟩,
  ⟨some 42, none, true, .ld false 1 (.t 41)⟩,
  ⟨some 43, none, true, .call false (.c (.fn i_trial_Survey_near [] [])) [(.t 39), (.t 42)]⟩,
  ⟨some 44, none, true, .lenS (.t 43)⟩,
  ⟨some 45, none, true, .mv (.c (.int .i64 0))⟩]

def f_trial_Survey_way_r12 : List Abs.Op := [
  ⟨some 46, none, false, .bin .lss (.t 45) (.t 44)⟩]

def f_trial_Survey_way_r13 : List Abs.Op := [
  ⟨some 47, none, false, .idxS 1 (.t 43) (.t 45)⟩,
  ⟨some 48, none, false, .ld false 1 (.t 47)⟩,
  ⟨some 11, none, false, .mv (.t 48)⟩]

def f_trial_Survey_way_r14 : List Abs.Op := [
  ⟨some 49, none, true, .ld false 1 (.t 7)⟩,
  ⟨some 50, none, true, .mv (.t 11)⟩,
  ⟨some 51, none, true, .idxS 1 (.t 49) (.t 50)⟩,
  ⟨some 52, none, true, .ld false 1 (.t 51)⟩,
  ⟨some 53, none, true, .fadr 0 (.t 3)⟩,
  ⟨some 54, none, true, .ld false 1 (.t 53)⟩,
  ⟨some 55, none, false, .bin .eql (.t 52) (.t 54)⟩]

def f_trial_Survey_way_r15 : List Abs.Op := [
  ⟨some 56, none, true, .ld false 1 (.t 7)⟩,
  ⟨some 57, none, true, .mv (.t 11)⟩,
  ⟨some 58, none, true, .ld false 1 (.t 7)⟩,
  ⟨some 59, none, true, .mv (.t 9)⟩,
  ⟨some 60, none, true, .idxS 1 (.t 59) (.c (.int .i64 0))⟩,
  ⟨some 61, none, true, .ld false 1 (.t 60)⟩,
  ⟨some 62, none, true, .idxS 1 (.t 58) (.t 61)⟩,
  ⟨some 63, none, true, .ld false 1 (.t 62)⟩,
  ⟨some 64, none, true, .bin .add (.t 63) (.c (.int .i64 1))⟩,
  ⟨some 65, none, false, .idxS 1 (.t 56) (.t 57)⟩,
  ⟨none, none, false, .st [] 1 (.t 65) (.t 64)⟩]

def f_trial_Survey_way_r16 : List Abs.Op := [
  ⟨some 66, none, false, .mv (.t 9)⟩,
  ⟨some 67, none, false, .mv (.t 11)⟩,
  ⟨some 68, none, false, .bsi 1 1 [(.int .i64 0)] [(0, 1, (.t 67))]⟩,
  ⟨some 69, none, false, .app 1 8 (.t 66) (.t 68)⟩,
  ⟨some 9, none, false, .mv (.t 69)⟩]

def f_trial_Survey_way_r17 : List Abs.Op := [
  ⟨some 70, none, false, .bin .add (.t 45) (.c (.int .i64 1))⟩,
  ⟨some 45, none, false, .mv (.t 70)⟩]

def f_trial_Survey_way_l18 : Abs.Cmd :=
  (.seq (.reg [1, 2, 3, 7, 9, 43, 44, 45, 46] f_trial_Survey_way_r12) (.seq (.ite (.t 46) .nop (.exit 4)) (.seq (.blk 5 (.seq (.reg [1, 2, 3, 7, 9, 11, 43, 44, 45] f_trial_Survey_way_r13) (.seq (.reg [1, 2, 3, 7, 9, 11, 43, 44, 45, 55] f_trial_Survey_way_r14) (.ite (.t 55) (.seq (.reg [1, 2, 3, 7, 9, 11, 43, 44, 45] f_trial_Survey_way_r15) (.reg [1, 2, 3, 7, 9, 43, 44, 45] f_trial_Survey_way_r16)) .nop)))) (.reg [1, 2, 3, 7, 9, 43, 44, 45] f_trial_Survey_way_r17))))

def f_trial_Survey_way_r19 : List Abs.Op := [
  ⟨some 37, none, false, .mv (.t 9)⟩,
  ⟨some 38, none, false, .slc 1 (.t 37) (some (.c (.int .i64 1))) none none⟩,
  ⟨some 9, none, false, .mv (.t 38)⟩]

def f_trial_Survey_way_l20 : Abs.Cmd :=
  (.seq (.seq (.reg [1, 2, 3, 7, 9, 36] f_trial_Survey_way_r10) (.ite (.t 36) .nop (.exit 2))) (.seq (.blk 3 (.seq (.reg [1, 2, 3, 7, 9, 43, 44, 45] f_trial_Survey_way_r11) (.blk 4 (.loop [1, 2, 3, 7, 9, 43, 44, 45] false f_trial_Survey_way_l18)))) (.reg [1, 2, 3, 7, 9] f_trial_Survey_way_r19)))

def f_trial_Survey_way_r21 : List Abs.Op := [
  ⟨some 71, none, false, .mv (.t 1)⟩,
  ⟨some 72, none, false, .bsm 1 1 [(.int .i64 0)] [(0, 1, (.t 71))]⟩,
  ⟨some 12, none, false, .mv (.t 72)⟩]

def f_trial_Survey_way_r22 : List Abs.Op := [
  ⟨some 73, none, false, .mv (.t 1)⟩,
  ⟨some 13, none, false, .alc [] [(.int .i64 0)]⟩,
  ⟨none, none, false, .st [] 1 (.t 13) (.t 73)⟩]

def f_trial_Survey_way_r23 : List Abs.Op := [
  ⟨some 74, none, false, .ld false 1 (.t 13)⟩,
  ⟨some 75, none, false, .mv (.t 2)⟩,
  ⟨some 76, none, false, .bin .neq (.t 74) (.t 75)⟩]

def f_trial_Survey_way_r24 : List Abs.Op := [
  ⟨some 77, none, false, .ld true 3 (.t 3)⟩,
  ⟨some 78, none, false, .ld false 1 (.t 13)⟩,
  ⟨some 79, none, false, .call false (.c (.fn i_trial_Survey_near [] [])) [(.t 77), (.t 78)]⟩,
  ⟨some 14, none, false, .mv (.t 79)⟩]

def f_trial_Survey_way_r25 : List Abs.Op := [
  ⟨some 80, none, false, .mv (.t 14)⟩,
  ⟨some 81, none, false, .mv (.t 14)⟩,
  ⟨some 82, none, false, .mkf i_trial_Survey_way_1 [] [(.t 7), (.t 13)]⟩,
  ⟨some 83, none, false, .call false (.c (.fn i_slices_IndexFunc_int [] [])) [(.t 81), (.t 82)]⟩,
  ⟨some 84, none, false, .idxS 1 (.t 80) (.t 83)⟩,
  ⟨some 85, none, false, .ld false 1 (.t 84)⟩,
  ⟨none, none, false, .st [] 1 (.t 13) (.t 85)⟩]

def f_trial_Survey_way_r26 : List Abs.Op := [
  ⟨some 86, none, false, .mv (.t 12)⟩,
  ⟨some 87, none, false, .ld false 1 (.t 13)⟩,
  ⟨some 88, none, false, .bsi 1 1 [(.int .i64 0)] [(0, 1, (.t 87))]⟩,
  ⟨some 89, none, false, .app 1 8 (.t 86) (.t 88)⟩,
  ⟨some 12, none, false, .mv (.t 89)⟩]

def f_trial_Survey_way_r27 : List Abs.Op := [
  ⟨some 90, none, false, .ld false 1 (.t 13)⟩]

def f_trial_Survey_way_r28 : List Abs.Op := [
  ⟨some 13, none, false, .alc [] [(.int .i64 0)]⟩,
  ⟨none, none, false, .st [] 1 (.t 13) (.t 90)⟩]

def f_trial_Survey_way_l29 : Abs.Cmd :=
  (.seq (.seq (.reg [2, 3, 7, 12, 13, 76] f_trial_Survey_way_r23) (.ite (.t 76) .nop (.exit 6))) (.seq (.blk 7 (.seq (.reg [2, 3, 7, 12, 13, 14] f_trial_Survey_way_r24) (.seq (.reg [2, 3, 7, 12, 13] f_trial_Survey_way_r25) (.reg [2, 3, 7, 12, 13] f_trial_Survey_way_r26)))) (.seq (.reg [2, 3, 7, 12, 90] f_trial_Survey_way_r27) (.reg [2, 3, 7, 12, 13] f_trial_Survey_way_r28))))

def f_trial_Survey_way_r30 : List Abs.Op := [
  ⟨some 91, none, false, .mv (.t 12)⟩,
  ⟨some 6, none, false, .mv (.t 91)⟩]

def a_trial_Survey_way : Ann := ⟨[(26, [6]), (25, [2, 3, 7, 12, 13]), (24, [2, 3, 7, 12, 90]), (23, [2, 3, 7, 12, 13]), (22, [2, 3, 7, 12, 13]), (21, [2, 3, 7, 12, 13, 14]), (20, [2, 3, 7, 12, 13, 76]), (19, [2, 3, 7, 12, 13]), (18, [1, 2, 3, 7, 12]), (10, [1, 2, 3, 7, 9]), (17, [1, 2, 3, 7, 9, 43, 44, 45]), (16, [1, 2, 3, 7, 9, 43, 44, 45]), (15, [1, 2, 3, 7, 9, 11, 43, 44, 45]), (14, [1, 2, 3, 7, 9, 11, 43, 44, 45, 55]), (13, [1, 2, 3, 7, 9, 11, 43, 44, 45]), (12, [1, 2, 3, 7, 9, 43, 44, 45, 46]), (11, [1, 2, 3, 7, 9, 43, 44, 45]), (9, [1, 2, 3, 7, 9, 36]), (8, [1, 2, 3, 7, 9]), (7, [1, 2, 3, 7]), (6, [1, 2, 3, 7, 19, 20]), (5, [1, 2, 3, 7, 19, 20]), (4, [1, 2, 3, 7, 8, 19, 20]), (3, [1, 2, 3, 7, 19, 20, 21]), (2, [1, 2, 3, 7, 19, 20]), (1, [1, 2, 3, 7]), (0, [1, 2, 3])], [(6, [2, 3, 7, 12, 13]), (4, [1, 2, 3, 7, 9, 43, 44, 45]), (2, [1, 2, 3, 7, 9]), (0, [1, 2, 3, 7, 19, 20])], [], [7, 13, 33, 72], [], [], [], [], [], []⟩
def f_trial_Survey_way : Abs.Fn := ⟨3, [.t 6],
  (.seq (.reg [1, 2, 3] f_trial_Survey_way_r0) (.seq (.reg [1, 2, 3, 7] f_trial_Survey_way_r1) (.seq (.seq (.reg [1, 2, 3, 7, 19, 20] f_trial_Survey_way_r2) (.blk 0 (.loop [1, 2, 3, 7, 19, 20] false f_trial_Survey_way_l7))) (.seq (.reg [1, 2, 3, 7] f_trial_Survey_way_r8) (.seq (.seq (.reg [1, 2, 3, 7, 9] f_trial_Survey_way_r9) (.blk 2 (.loop [1, 2, 3, 7, 9] false f_trial_Survey_way_l20))) (.seq (.reg [1, 2, 3, 7, 12] f_trial_Survey_way_r21) (.seq (.seq (.reg [2, 3, 7, 12, 13] f_trial_Survey_way_r22) (.blk 6 (.loop [2, 3, 7, 12, 13] false f_trial_Survey_way_l29))) (.seq (.reg [6] f_trial_Survey_way_r30) .ret))))))))⟩

theorem e_trial_Survey_way_r0 : type_of% f_trial_Survey_way_r0.eq_1 := by_rfl f_trial_Survey_way_r0.eq_1
theorem e_trial_Survey_way_r1 : type_of% f_trial_Survey_way_r1.eq_1 := by_rfl f_trial_Survey_way_r1.eq_1
theorem e_trial_Survey_way_r2 : type_of% f_trial_Survey_way_r2.eq_1 := by_rfl f_trial_Survey_way_r2.eq_1
theorem e_trial_Survey_way_r3 : type_of% f_trial_Survey_way_r3.eq_1 := by_rfl f_trial_Survey_way_r3.eq_1
theorem e_trial_Survey_way_r4 : type_of% f_trial_Survey_way_r4.eq_1 := by_rfl f_trial_Survey_way_r4.eq_1
theorem e_trial_Survey_way_r5 : type_of% f_trial_Survey_way_r5.eq_1 := by_rfl f_trial_Survey_way_r5.eq_1
theorem e_trial_Survey_way_r6 : type_of% f_trial_Survey_way_r6.eq_1 := by_rfl f_trial_Survey_way_r6.eq_1
theorem e_trial_Survey_way_l7 : type_of% f_trial_Survey_way_l7.eq_1 := by_rfl f_trial_Survey_way_l7.eq_1
theorem e_trial_Survey_way_r8 : type_of% f_trial_Survey_way_r8.eq_1 := by_rfl f_trial_Survey_way_r8.eq_1
theorem e_trial_Survey_way_r9 : type_of% f_trial_Survey_way_r9.eq_1 := by_rfl f_trial_Survey_way_r9.eq_1
theorem e_trial_Survey_way_r10 : type_of% f_trial_Survey_way_r10.eq_1 := by_rfl f_trial_Survey_way_r10.eq_1
theorem e_trial_Survey_way_r11 : type_of% f_trial_Survey_way_r11.eq_1 := by_rfl f_trial_Survey_way_r11.eq_1
theorem e_trial_Survey_way_r12 : type_of% f_trial_Survey_way_r12.eq_1 := by_rfl f_trial_Survey_way_r12.eq_1
theorem e_trial_Survey_way_r13 : type_of% f_trial_Survey_way_r13.eq_1 := by_rfl f_trial_Survey_way_r13.eq_1
theorem e_trial_Survey_way_r14 : type_of% f_trial_Survey_way_r14.eq_1 := by_rfl f_trial_Survey_way_r14.eq_1
theorem e_trial_Survey_way_r15 : type_of% f_trial_Survey_way_r15.eq_1 := by_rfl f_trial_Survey_way_r15.eq_1
theorem e_trial_Survey_way_r16 : type_of% f_trial_Survey_way_r16.eq_1 := by_rfl f_trial_Survey_way_r16.eq_1
theorem e_trial_Survey_way_r17 : type_of% f_trial_Survey_way_r17.eq_1 := by_rfl f_trial_Survey_way_r17.eq_1
theorem e_trial_Survey_way_l18 : type_of% f_trial_Survey_way_l18.eq_1 := by_rfl f_trial_Survey_way_l18.eq_1
theorem e_trial_Survey_way_r19 : type_of% f_trial_Survey_way_r19.eq_1 := by_rfl f_trial_Survey_way_r19.eq_1
theorem e_trial_Survey_way_l20 : type_of% f_trial_Survey_way_l20.eq_1 := by_rfl f_trial_Survey_way_l20.eq_1
theorem e_trial_Survey_way_r21 : type_of% f_trial_Survey_way_r21.eq_1 := by_rfl f_trial_Survey_way_r21.eq_1
theorem e_trial_Survey_way_r22 : type_of% f_trial_Survey_way_r22.eq_1 := by_rfl f_trial_Survey_way_r22.eq_1
theorem e_trial_Survey_way_r23 : type_of% f_trial_Survey_way_r23.eq_1 := by_rfl f_trial_Survey_way_r23.eq_1
theorem e_trial_Survey_way_r24 : type_of% f_trial_Survey_way_r24.eq_1 := by_rfl f_trial_Survey_way_r24.eq_1
theorem e_trial_Survey_way_r25 : type_of% f_trial_Survey_way_r25.eq_1 := by_rfl f_trial_Survey_way_r25.eq_1
theorem e_trial_Survey_way_r26 : type_of% f_trial_Survey_way_r26.eq_1 := by_rfl f_trial_Survey_way_r26.eq_1
theorem e_trial_Survey_way_r27 : type_of% f_trial_Survey_way_r27.eq_1 := by_rfl f_trial_Survey_way_r27.eq_1
theorem e_trial_Survey_way_r28 : type_of% f_trial_Survey_way_r28.eq_1 := by_rfl f_trial_Survey_way_r28.eq_1
theorem e_trial_Survey_way_l29 : type_of% f_trial_Survey_way_l29.eq_1 := by_rfl f_trial_Survey_way_l29.eq_1
theorem e_trial_Survey_way_r30 : type_of% f_trial_Survey_way_r30.eq_1 := by_rfl f_trial_Survey_way_r30.eq_1
theorem e_trial_Survey_way : type_of% f_trial_Survey_way.eq_1 := by_rfl f_trial_Survey_way.eq_1
theorem ok_trial_Survey_way : fnC Try.prog a_trial_Survey_way Try.f102 = some f_trial_Survey_way := by kernel_rfl

/-! 103 fumarole/fumaroleref04.Far -/
def f_ref04_Far_r0 : List Abs.Op := [
  ⟨some 2, none, false, .boxi (.t 0)⟩,
  ⟨some 4, none, false, .mv (.c .nils)⟩]

def f_ref04_Far_r1 : List Abs.Op := [
  ⟨some 10, none, false, .fadr 0 (.t 2)⟩,
  ⟨some 11, none, false, .ld false 1 (.t 10)⟩,
  ⟨some 12, none, false, .mks 1 8 [(.int .i64 0)] (.t 11) (.t 11)⟩,
  ⟨some 5, none, false, .mv (.t 12)⟩]

def f_ref04_Far_r2 : List Abs.Op := [
  ⟨some 6, none, false, .mv (.c (.int .i64 0))⟩]

def f_ref04_Far_r3 : List Abs.Op := [
  ⟨some 13, none, false, .mv (.t 6)⟩,
  ⟨some 14, none, false, .fadr 0 (.t 2)⟩,
  ⟨some 15, none, false, .ld false 1 (.t 14)⟩,
  ⟨some 16, none, false, .bin .lss (.t 13) (.t 15)⟩]

def f_ref04_Far_r4 : List Abs.Op := [
  ⟨some 19, none, false, .mv (.t 5)⟩,
  ⟨some 20, none, false, .mv (.t 6)⟩,
  ⟨some 21, none, false, .fadr 0 (.t 2)⟩,
  ⟨some 22, none, false, .ld false 1 (.t 21)⟩,
  ⟨some 23, none, false, .idxS 1 (.t 19) (.t 20)⟩,
  ⟨none, none, false, .st [] 1 (.t 23) (.t 22)⟩]

def f_ref04_Far_r5 : List Abs.Op := [
  ⟨some 17, none, false, .mv (.t 6)⟩,
  ⟨some 18, none, false, .bin .add (.t 17) (.c (.int .i64 1))⟩,
  ⟨some 6, none, false, .mv (.t 18)⟩]

def f_ref04_Far_l6 : Abs.Cmd :=
  (.seq (.seq (.reg [1, 2, 5, 6, 16] f_ref04_Far_r3) (.ite (.t 16) .nop (.exit 0))) (.seq (.blk 1 (.reg [1, 2, 5, 6] f_ref04_Far_r4)) (.reg [1, 2, 5, 6] f_ref04_Far_r5)))

def f_ref04_Far_r7 : List Abs.Op := [
  ⟨some 24, none, false, .mv (.t 5)⟩,
  ⟨some 25, none, false, .mv (.t 1)⟩,
  ⟨some 26, none, false, .idxS 1 (.t 24) (.t 25)⟩,
  ⟨none, none, false, .st [] 1 (.t 26) (.c (.int .i64 0))⟩]

def f_ref04_Far_r8 : List Abs.Op := [
  ⟨some 7, none, false, .mv (.c (.int .i64 0))⟩]

def f_ref04_Far_r9 : List Abs.Op := [
  ⟨some 27, none, false, .mv (.t 7)⟩,
  ⟨some 28, none, false, .fadr 0 (.t 2)⟩,
  ⟨some 29, none, false, .ld false 1 (.t 28)⟩,
  ⟨some 30, none, false, .bin .lss (.t 27) (.t 29)⟩]

def f_ref04_Far_r10 : List Abs.Op := [
  ⟨some 8, none, false, .mv (.c (.int .i64 0))⟩]

def f_ref04_Far_r11 : List Abs.Op := [
  ⟨some 33, none, false, .mv (.t 8)⟩,
  ⟨some 34, none, false, .fadr 0 (.t 2)⟩,
  ⟨some 35, none, false, .ld false 1 (.t 34)⟩,
  ⟨some 36, none, false, .bin .lss (.t 33) (.t 35)⟩]

def f_ref04_Far_r12 : List Abs.Op := [
  ⟨some 9, none, false, .mv (.c (.int .i64 0))⟩]

def f_ref04_Far_r13 : List Abs.Op := [
  ⟨some 39, none, false, .mv (.t 9)⟩,
  ⟨some 40, none, false, .fadr 0 (.t 2)⟩,
  ⟨some 41, none, false, .ld false 1 (.t 40)⟩,
  ⟨some 42, none, false, .bin .lss (.t 39) (.t 41)⟩]

def f_ref04_Far_r14 : List Abs.Op := [
  ⟨some 45, none, true, .ld true 3 (.t 2)⟩,
  ⟨some 46, none, true, .mv (.t 8)⟩,
  ⟨some 47, none, true, .mv (.t 9)⟩,
  ⟨some 48, none, true, .call false (.c (.fn i_ref04_beside [] [])) [(.t 45), (.t 46), (.t 47)]⟩,
  ⟨some 49, none, true, .mv (.t 48)⟩,
  ⟨some 50, some (49, true), true, .mv (.t 5)⟩,
  ⟨some 51, some (49, true), true, .mv (.t 8)⟩,
  ⟨some 52, some (49, true), true, .idxS 1 (.t 50) (.t 51)⟩,
  ⟨some 53, some (49, true), true, .ld false 1 (.t 52)⟩,
  ⟨some 54, some (49, true), true, .bin .add (.t 53) (.c (.int .i64 1))⟩,
  ⟨some 55, some (49, true), true, .mv (.t 5)⟩,
  ⟨some 56, some (49, true), true, .mv (.t 9)⟩,
  ⟨some 57, some (49, true), true, .idxS 1 (.t 55) (.t 56)⟩,
  ⟨some 58, some (49, true), true, .ld false 1 (.t 57)⟩,
  ⟨some 59, some (49, true), false, .bin .lss (.t 54) (.t 58)⟩,
  ⟨some 60, none, false, .pick (.t 49) (.t 59) (.c (.bool false))⟩]

def f_ref04_Far_r15 : List Abs.Op := [
  ⟨some 61, none, false, .mv (.t 5)⟩,
  ⟨some 62, none, false, .mv (.t 9)⟩,
  ⟨some 63, none, false, .mv (.t 5)⟩,
  ⟨some 64, none, false, .mv (.t 8)⟩,
  ⟨some 65, none, false, .idxS 1 (.t 63) (.t 64)⟩,
  ⟨some 66, none, false, .ld false 1 (.t 65)⟩,
  ⟨some 67, none, false, .bin .add (.t 66) (.c (.int .i64 1))⟩,
  ⟨some 68, none, false, .idxS 1 (.t 61) (.t 62)⟩,
  ⟨none, none, false, .st [] 1 (.t 68) (.t 67)⟩]

def f_ref04_Far_r16 : List Abs.Op := [
  ⟨some 43, none, false, .mv (.t 9)⟩,
  ⟨some 44, none, false, .bin .add (.t 43) (.c (.int .i64 1))⟩,
  ⟨some 9, none, false, .mv (.t 44)⟩]

def f_ref04_Far_l17 : Abs.Cmd :=
  (.seq (.seq (.reg [2, 5, 7, 8, 9, 42] f_ref04_Far_r13) (.ite (.t 42) .nop (.exit 6))) (.seq (.blk 7 (.seq (.reg [2, 5, 7, 8, 9, 60] f_ref04_Far_r14) (.ite (.t 60) (.reg [2, 5, 7, 8, 9] f_ref04_Far_r15) .nop))) (.reg [2, 5, 7, 8, 9] f_ref04_Far_r16)))

def f_ref04_Far_r18 : List Abs.Op := [
  ⟨some 37, none, false, .mv (.t 8)⟩,
  ⟨some 38, none, false, .bin .add (.t 37) (.c (.int .i64 1))⟩,
  ⟨some 8, none, false, .mv (.t 38)⟩]

def f_ref04_Far_l19 : Abs.Cmd :=
  (.seq (.seq (.reg [2, 5, 7, 8, 36] f_ref04_Far_r11) (.ite (.t 36) .nop (.exit 4))) (.seq (.blk 5 (.seq (.reg [2, 5, 7, 8, 9] f_ref04_Far_r12) (.blk 6 (.loop [2, 5, 7, 8, 9] false f_ref04_Far_l17)))) (.reg [2, 5, 7, 8] f_ref04_Far_r18)))

def f_ref04_Far_r20 : List Abs.Op := [
  ⟨some 31, none, false, .mv (.t 7)⟩,
  ⟨some 32, none, false, .bin .add (.t 31) (.c (.int .i64 1))⟩,
  ⟨some 7, none, false, .mv (.t 32)⟩]

def f_ref04_Far_l21 : Abs.Cmd :=
  (.seq (.seq (.reg [2, 5, 7, 30] f_ref04_Far_r9) (.ite (.t 30) .nop (.exit 2))) (.seq (.blk 3 (.seq (.reg [2, 5, 7, 8] f_ref04_Far_r10) (.blk 4 (.loop [2, 5, 7, 8] false f_ref04_Far_l19)))) (.reg [2, 5, 7] f_ref04_Far_r20)))

def f_ref04_Far_r22 : List Abs.Op := [
  ⟨some 69, none, false, .mv (.t 5)⟩,
  ⟨some 4, none, false, .mv (.t 69)⟩]

def a_ref04_Far : Ann := ⟨[(18, [4]), (9, [2, 5, 7]), (12, [2, 5, 7, 8]), (15, [2, 5, 7, 8, 9]), (17, [2, 5, 7, 8, 9]), (16, [2, 5, 7, 8, 9, 60]), (14, [2, 5, 7, 8, 9, 42]), (13, [2, 5, 7, 8, 9]), (11, [2, 5, 7, 8, 36]), (10, [2, 5, 7, 8]), (8, [2, 5, 7, 30]), (7, [2, 5, 7]), (6, [2, 5]), (4, [1, 2, 5, 6]), (5, [1, 2, 5, 6]), (3, [1, 2, 5, 6, 16]), (2, [1, 2, 5, 6]), (1, [1, 2, 5]), (0, [1, 2])], [(6, [2, 5, 7, 8, 9]), (4, [2, 5, 7, 8]), (2, [2, 5, 7]), (0, [1, 2, 5, 6])], [], [], [], [], [], [], [], []⟩
def f_ref04_Far : Abs.Fn := ⟨2, [.t 4],
  (.seq (.reg [1, 2] f_ref04_Far_r0) (.seq (.reg [1, 2, 5] f_ref04_Far_r1) (.seq (.seq (.reg [1, 2, 5, 6] f_ref04_Far_r2) (.blk 0 (.loop [1, 2, 5, 6] false f_ref04_Far_l6))) (.seq (.reg [2, 5] f_ref04_Far_r7) (.seq (.seq (.reg [2, 5, 7] f_ref04_Far_r8) (.blk 2 (.loop [2, 5, 7] false f_ref04_Far_l21))) (.seq (.reg [4] f_ref04_Far_r22) .ret))))))⟩

theorem e_ref04_Far_r0 : type_of% f_ref04_Far_r0.eq_1 := by_rfl f_ref04_Far_r0.eq_1
theorem e_ref04_Far_r1 : type_of% f_ref04_Far_r1.eq_1 := by_rfl f_ref04_Far_r1.eq_1
theorem e_ref04_Far_r2 : type_of% f_ref04_Far_r2.eq_1 := by_rfl f_ref04_Far_r2.eq_1
theorem e_ref04_Far_r3 : type_of% f_ref04_Far_r3.eq_1 := by_rfl f_ref04_Far_r3.eq_1
theorem e_ref04_Far_r4 : type_of% f_ref04_Far_r4.eq_1 := by_rfl f_ref04_Far_r4.eq_1
theorem e_ref04_Far_r5 : type_of% f_ref04_Far_r5.eq_1 := by_rfl f_ref04_Far_r5.eq_1
theorem e_ref04_Far_l6 : type_of% f_ref04_Far_l6.eq_1 := by_rfl f_ref04_Far_l6.eq_1
theorem e_ref04_Far_r7 : type_of% f_ref04_Far_r7.eq_1 := by_rfl f_ref04_Far_r7.eq_1
theorem e_ref04_Far_r8 : type_of% f_ref04_Far_r8.eq_1 := by_rfl f_ref04_Far_r8.eq_1
theorem e_ref04_Far_r9 : type_of% f_ref04_Far_r9.eq_1 := by_rfl f_ref04_Far_r9.eq_1
theorem e_ref04_Far_r10 : type_of% f_ref04_Far_r10.eq_1 := by_rfl f_ref04_Far_r10.eq_1
theorem e_ref04_Far_r11 : type_of% f_ref04_Far_r11.eq_1 := by_rfl f_ref04_Far_r11.eq_1
theorem e_ref04_Far_r12 : type_of% f_ref04_Far_r12.eq_1 := by_rfl f_ref04_Far_r12.eq_1
theorem e_ref04_Far_r13 : type_of% f_ref04_Far_r13.eq_1 := by_rfl f_ref04_Far_r13.eq_1
theorem e_ref04_Far_r14 : type_of% f_ref04_Far_r14.eq_1 := by_rfl f_ref04_Far_r14.eq_1
theorem e_ref04_Far_r15 : type_of% f_ref04_Far_r15.eq_1 := by_rfl f_ref04_Far_r15.eq_1
theorem e_ref04_Far_r16 : type_of% f_ref04_Far_r16.eq_1 := by_rfl f_ref04_Far_r16.eq_1
theorem e_ref04_Far_l17 : type_of% f_ref04_Far_l17.eq_1 := by_rfl f_ref04_Far_l17.eq_1
theorem e_ref04_Far_r18 : type_of% f_ref04_Far_r18.eq_1 := by_rfl f_ref04_Far_r18.eq_1
theorem e_ref04_Far_l19 : type_of% f_ref04_Far_l19.eq_1 := by_rfl f_ref04_Far_l19.eq_1
theorem e_ref04_Far_r20 : type_of% f_ref04_Far_r20.eq_1 := by_rfl f_ref04_Far_r20.eq_1
theorem e_ref04_Far_l21 : type_of% f_ref04_Far_l21.eq_1 := by_rfl f_ref04_Far_l21.eq_1
theorem e_ref04_Far_r22 : type_of% f_ref04_Far_r22.eq_1 := by_rfl f_ref04_Far_r22.eq_1
theorem e_ref04_Far : type_of% f_ref04_Far.eq_1 := by_rfl f_ref04_Far.eq_1
theorem ok_ref04_Far : fnC Try.prog a_ref04_Far Try.f103 = some f_ref04_Far := by kernel_rfl

/-! 104 fumarole/fumaroleref04.beside -/
def f_ref04_beside_r0 : List Abs.Op := [
  ⟨some 3, none, false, .boxi (.t 0)⟩,
  ⟨some 6, none, false, .mv (.c (.bool false))⟩]

def f_ref04_beside_r1 : List Abs.Op := [
  ⟨some 7, none, false, .mv (.c (.int .i64 0))⟩]

def f_ref04_beside_r2 : List Abs.Op := [
  ⟨some 9, none, false, .mv (.t 7)⟩,
  ⟨some 10, none, false, .fadr 2 (.t 3)⟩,
  ⟨some 11, none, false, .ld false 1 (.t 10)⟩,
  ⟨some 12, none, false, .lenS (.t 11)⟩,
  ⟨some 13, none, false, .bin .lss (.t 9) (.t 12)⟩]

def f_ref04_beside_r3 : List Abs.Op := [
  ⟨some 16, none, false, .fadr 2 (.t 3)⟩,
  ⟨some 17, none, false, .ld false 1 (.t 16)⟩,
  ⟨some 18, none, false, .mv (.t 7)⟩,
  ⟨some 19, none, false, .idxS 4 (.t 17) (.t 18)⟩,
  ⟨some 20, none, false, .ld true 4 (.t 19)⟩,
  ⟨some 8, none, false, .alcv [] [(.int .i64 0), (.int .i64 0), (.int .i64 0), (.int .i64 0)]⟩,
  ⟨none, none, false, .stv 8 [] 4 8 (.t 20)⟩]

def f_ref04_beside_r4 : List Abs.Op := [
  ⟨some 21, none, false, .ld true 3 (.t 3)⟩,
  ⟨some 22, none, false, .ldv 8 true 4 8⟩,
  ⟨some 23, none, false, .call false (.c (.fn i_ref04_Sure [] [])) [(.t 21), (.t 22)]⟩,
  ⟨some 24, none, false, .mv (.t 23)⟩,
  ⟨some 25, some (24, true), false, .fadr 0 (.t 8)⟩,
  ⟨some 26, some (24, true), false, .ldv 8 false 1 25⟩,
  ⟨some 27, some (24, true), false, .mv (.t 1)⟩,
  ⟨some 28, some (24, true), false, .bin .eql (.t 26) (.t 27)⟩,
  ⟨some 29, some (24, true), false, .mv (.t 28)⟩,
  ⟨some 30, some (29, true), false, .fadr 1 (.t 8)⟩,
  ⟨some 31, some (29, true), false, .ldv 8 false 1 30⟩,
  ⟨some 32, some (29, true), false, .mv (.t 2)⟩,
  ⟨some 33, some (29, true), false, .bin .eql (.t 31) (.t 32)⟩,
  ⟨some 34, some (24, true), false, .pick (.t 29) (.t 33) (.c (.bool false))⟩,
  ⟨some 35, some (24, true), false, .mv (.t 34)⟩,
  ⟨some 36, some (35, false), false, .fadr 0 (.t 8)⟩,
  ⟨some 37, some (35, false), false, .ldv 8 false 1 36⟩,
  ⟨some 38, some (35, false), false, .mv (.t 2)⟩,
  ⟨some 39, some (35, false), false, .bin .eql (.t 37) (.t 38)⟩,
  ⟨some 40, some (35, false), false, .mv (.t 39)⟩,
  ⟨some 41, some (40, true), false, .fadr 1 (.t 8)⟩,
  ⟨some 42, some (40, true), false, .ldv 8 false 1 41⟩,
  ⟨some 43, some (40, true), false, .mv (.t 1)⟩,
  ⟨some 44, some (40, true), false, .bin .eql (.t 42) (.t 43)⟩,
  ⟨some 45, some (35, false), false, .pick (.t 40) (.t 44) (.c (.bool false))⟩,
  ⟨some 46, some (24, true), false, .pick (.t 35) (.c (.bool true)) (.t 45)⟩,
  ⟨some 47, none, false, .pick (.t 24) (.t 46) (.c (.bool false))⟩]

def f_ref04_beside_r5 : List Abs.Op := [
  ⟨some 6, none, false, .mv (.c (.bool true))⟩]

def f_ref04_beside_r6 : List Abs.Op := [
  ⟨some 14, none, false, .mv (.t 7)⟩,
  ⟨some 15, none, false, .bin .add (.t 14) (.c (.int .i64 1))⟩,
  ⟨some 7, none, false, .mv (.t 15)⟩]

def f_ref04_beside_l7 : Abs.Cmd :=
  (.seq (.seq (.reg [1, 2, 3, 7, 13] f_ref04_beside_r2) (.ite (.t 13) .nop (.exit 0))) (.seq (.blk 1 (.seq (.reg [1, 2, 3, 7, 8] f_ref04_beside_r3) (.seq (.reg [1, 2, 3, 7, 47] f_ref04_beside_r4) (.ite (.t 47) (.seq (.reg [6] f_ref04_beside_r5) .ret) .nop)))) (.reg [1, 2, 3, 7] f_ref04_beside_r6)))

def f_ref04_beside_r8 : List Abs.Op := [
  ⟨some 6, none, false, .mv (.c (.bool false))⟩]

def a_ref04_beside : Ann := ⟨[(7, [6]), (3, [1, 2, 3, 7]), (6, [6]), (5, [1, 2, 3, 7, 47]), (4, [1, 2, 3, 7, 8]), (2, [1, 2, 3, 7, 13]), (1, [1, 2, 3, 7]), (0, [1, 2, 3])], [(0, [1, 2, 3, 7])], [], [8], [8], [], [], [], [], []⟩
def f_ref04_beside : Abs.Fn := ⟨3, [.t 6],
  (.seq (.reg [1, 2, 3] f_ref04_beside_r0) (.seq (.seq (.reg [1, 2, 3, 7] f_ref04_beside_r1) (.blk 0 (.loop [1, 2, 3, 7] false f_ref04_beside_l7))) (.seq (.reg [6] f_ref04_beside_r8) .ret)))⟩

theorem e_ref04_beside_r0 : type_of% f_ref04_beside_r0.eq_1 := by_rfl f_ref04_beside_r0.eq_1
theorem e_ref04_beside_r1 : type_of% f_ref04_beside_r1.eq_1 := by_rfl f_ref04_beside_r1.eq_1
theorem e_ref04_beside_r2 : type_of% f_ref04_beside_r2.eq_1 := by_rfl f_ref04_beside_r2.eq_1
theorem e_ref04_beside_r3 : type_of% f_ref04_beside_r3.eq_1 := by_rfl f_ref04_beside_r3.eq_1
theorem e_ref04_beside_r4 : type_of% f_ref04_beside_r4.eq_1 := by_rfl f_ref04_beside_r4.eq_1
theorem e_ref04_beside_r5 : type_of% f_ref04_beside_r5.eq_1 := by_rfl f_ref04_beside_r5.eq_1
theorem e_ref04_beside_r6 : type_of% f_ref04_beside_r6.eq_1 := by_rfl f_ref04_beside_r6.eq_1
theorem e_ref04_beside_l7 : type_of% f_ref04_beside_l7.eq_1 := by_rfl f_ref04_beside_l7.eq_1
theorem e_ref04_beside_r8 : type_of% f_ref04_beside_r8.eq_1 := by_rfl f_ref04_beside_r8.eq_1
theorem e_ref04_beside : type_of% f_ref04_beside.eq_1 := by_rfl f_ref04_beside.eq_1
theorem ok_ref04_beside : fnC Try.prog a_ref04_beside Try.f104 = some f_ref04_beside := by kernel_rfl

end Go.Proofs.Ytcjjdaifpboaaaa
