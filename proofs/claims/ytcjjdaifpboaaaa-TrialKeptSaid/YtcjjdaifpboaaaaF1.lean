/- The code of functions of the program, in the small instruction set; each is what the translation makes of it. -/
import Derived.Test.YtcjjdaifpboaaaaIds
set_option linter.unusedVariables false
set_option maxRecDepth 100000
namespace Go.Proofs.Ytcjjdaifpboaaaa
open Go Go.Abs
/-! 19 fumarole/trial.CheckTest -/
def f_trial_CheckTest_r0 : List Abs.Op := [
  ⟨some 1, none, false, .boxi (.t 0)⟩,
  ⟨some 2, none, false, .mv (.c (.int .i64 0))⟩]

def f_trial_CheckTest_r1 : List Abs.Op := [
  ⟨some 5, none, false, .fadr 6 (.t 1)⟩,
  ⟨some 6, none, false, .ld false 1 (.t 5)⟩,
  ⟨some 7, none, false, .lenS (.t 6)⟩,
  ⟨some 8, none, false, .bin .gtr (.t 7) (.c (.int .i64 12))⟩]

def f_trial_CheckTest_r2 : List Abs.Op := [
  ⟨some 2, none, false, .mv (.c (.int .i64 3))⟩]

def f_trial_CheckTest_r3 : List Abs.Op := [
  ⟨some 9, none, false, .fadr 0 (.t 1)⟩,
  ⟨some 10, none, false, .ld true 2 (.t 9)⟩,
  ⟨some 11, none, false, .call false (.c (.fn i_trial_Range_right [] [])) [(.t 10), (.c (.int .i64 0)), (.c (.int .i64 100000))]⟩,
  ⟨some 12, none, false, .un .not (.t 11)⟩,
  ⟨some 13, none, false, .mv (.t 12)⟩,
  ⟨some 14, some (13, false), false, .fadr 2 (.t 1)⟩,
  ⟨some 15, some (13, false), false, .ld true 2 (.t 14)⟩,
  ⟨some 16, some (13, false), false, .call false (.c (.fn i_trial_Range_right [] [])) [(.t 15), (.c (.int .i64 0)), (.c (.int .i64 10000))]⟩,
  ⟨some 17, some (13, false), false, .un .not (.t 16)⟩,
  ⟨some 18, none, false, .pick (.t 13) (.c (.bool true)) (.t 17)⟩,
  ⟨some 19, none, false, .mv (.t 18)⟩,
  ⟨some 20, some (19, false), false, .fadr 4 (.t 1)⟩,
  ⟨some 21, some (19, false), false, .ld true 2 (.t 20)⟩,
  ⟨some 22, some (19, false), false, .call false (.c (.fn i_trial_Range_right [] [])) [(.t 21), (.c (.int .i64 0)), (.c (.int .i64 1000))]⟩,
  ⟨some 23, some (19, false), false, .un .not (.t 22)⟩,
  ⟨some 24, none, false, .pick (.t 19) (.c (.bool true)) (.t 23)⟩,
  ⟨some 25, none, false, .mv (.t 24)⟩,
  ⟨some 26, some (25, false), false, .fadr 2 (.t 1)⟩,
  ⟨some 27, some (25, false), false, .fadr 1 (.t 26)⟩,
  ⟨some 28, some (25, false), false, .ld false 1 (.t 27)⟩,
  ⟨some 29, some (25, false), false, .fadr 2 (.t 1)⟩,
  ⟨some 30, some (25, false), false, .fadr 0 (.t 29)⟩,
  ⟨some 31, some (25, false), false, .ld false 1 (.t 30)⟩,
  ⟨some 32, some (25, false), false, .bin .sub (.t 28) (.t 31)⟩,
  ⟨some 33, some (25, false), false, .bin .geq (.t 32) (.c (.int .i64 40))⟩,
  ⟨some 34, none, false, .pick (.t 25) (.c (.bool true)) (.t 33)⟩,
  ⟨some 35, none, false, .mv (.t 34)⟩,
  ⟨some 36, some (35, false), false, .fadr 4 (.t 1)⟩,
  ⟨some 37, some (35, false), false, .fadr 1 (.t 36)⟩,
  ⟨some 38, some (35, false), false, .ld false 1 (.t 37)⟩,
  ⟨some 39, some (35, false), false, .fadr 4 (.t 1)⟩,
  ⟨some 40, some (35, false), false, .fadr 0 (.t 39)⟩,
  ⟨some 41, some (35, false), false, .ld false 1 (.t 40)⟩,
  ⟨some 42, some (35, false), false, .bin .sub (.t 38) (.t 41)⟩,
  ⟨some 43, some (35, false), false, .bin .geq (.t 42) (.c (.int .i64 40))⟩,
  ⟨some 44, none, false, .pick (.t 35) (.c (.bool true)) (.t 43)⟩]

def f_trial_CheckTest_r4 : List Abs.Op := [
  ⟨some 2, none, false, .mv (.c (.int .i64 1))⟩]

def f_trial_CheckTest_r5 : List Abs.Op := [
  ⟨some 45, none, false, .fadr 6 (.t 1)⟩,
  ⟨some 46, none, false, .ld false 1 (.t 45)⟩,
  ⟨some 47, none, false, .lenS (.t 46)⟩,
  ⟨some 48, none, false, .mv (.c (.int .i64 0))⟩]

def f_trial_CheckTest_r6 : List Abs.Op := [
  ⟨some 49, none, false, .bin .lss (.t 48) (.t 47)⟩]

def f_trial_CheckTest_r7 : List Abs.Op := [
  ⟨some 50, none, false, .idxS 3 (.t 46) (.t 48)⟩,
  ⟨some 51, none, false, .ld true 3 (.t 50)⟩,
  ⟨some 4, none, false, .alcv [] [(.int .i64 0), (.int .i64 0), (.int .i64 0)]⟩,
  ⟨none, none, false, .stv 4 [] 3 4 (.t 51)⟩]

def f_trial_CheckTest_r8 : List Abs.Op := [
  ⟨some 52, none, false, .fadr 0 (.t 4)⟩,
  ⟨some 53, none, false, .ldv 4 false 1 52⟩,
  ⟨some 54, none, false, .call false (.c (.fn i_trial_within [] [])) [(.t 53), (.c (.int .i64 0)), (.c (.int .i64 1000))]⟩,
  ⟨some 55, none, false, .un .not (.t 54)⟩,
  ⟨some 56, none, false, .mv (.t 55)⟩,
  ⟨some 57, some (56, false), false, .fadr 1 (.t 4)⟩,
  ⟨some 58, some (56, false), false, .ldv 4 true 2 57⟩,
  ⟨some 59, some (56, false), false, .call false (.c (.fn i_trial_Range_drops [] [])) [(.t 58)]⟩,
  ⟨some 60, some (56, false), false, .un .not (.t 59)⟩,
  ⟨some 61, none, false, .pick (.t 56) (.c (.bool true)) (.t 60)⟩]

def f_trial_CheckTest_r9 : List Abs.Op := [
  ⟨some 2, none, false, .mv (.c (.int .i64 1))⟩]

def f_trial_CheckTest_r10 : List Abs.Op := [
  ⟨some 62, none, false, .bin .add (.t 48) (.c (.int .i64 1))⟩,
  ⟨some 48, none, false, .mv (.t 62)⟩]

def f_trial_CheckTest_l11 : Abs.Cmd :=
  (.seq (.reg [46, 47, 48, 49] f_trial_CheckTest_r6) (.seq (.ite (.t 49) .nop (.exit 0)) (.seq (.blk 1 (.seq (.reg [4, 46, 47, 48] f_trial_CheckTest_r7) (.seq (.reg [46, 47, 48, 61] f_trial_CheckTest_r8) (.ite (.t 61) (.seq (.reg [2] f_trial_CheckTest_r9) .ret) .nop)))) (.reg [46, 47, 48] f_trial_CheckTest_r10))))

def f_trial_CheckTest_r12 : List Abs.Op := [
  ⟨some 2, none, false, .mv (.c (.int .i64 0))⟩]

def a_trial_CheckTest : Ann := ⟨[(11, [2]), (10, [46, 47, 48]), (9, [2]), (8, [46, 47, 48, 61]), (7, [4, 46, 47, 48]), (6, [46, 47, 48, 49]), (5, [46, 47, 48]), (4, [2]), (3, [1, 44]), (2, [2]), (1, [1, 8]), (0, [1])], [(0, [46, 47, 48])], [], [4], [4], [], [], [], [], []⟩
def f_trial_CheckTest : Abs.Fn := ⟨1, [.t 2],
  (.seq (.reg [1] f_trial_CheckTest_r0) (.seq (.seq (.reg [1, 8] f_trial_CheckTest_r1) (.ite (.t 8) (.seq (.reg [2] f_trial_CheckTest_r2) .ret) .nop)) (.seq (.seq (.reg [1, 44] f_trial_CheckTest_r3) (.ite (.t 44) (.seq (.reg [2] f_trial_CheckTest_r4) .ret) .nop)) (.seq (.seq (.reg [46, 47, 48] f_trial_CheckTest_r5) (.blk 0 (.loop [46, 47, 48] false f_trial_CheckTest_l11))) (.seq (.reg [2] f_trial_CheckTest_r12) .ret)))))⟩

theorem e_trial_CheckTest_r0 : type_of% f_trial_CheckTest_r0.eq_1 := by_rfl f_trial_CheckTest_r0.eq_1
theorem e_trial_CheckTest_r1 : type_of% f_trial_CheckTest_r1.eq_1 := by_rfl f_trial_CheckTest_r1.eq_1
theorem e_trial_CheckTest_r2 : type_of% f_trial_CheckTest_r2.eq_1 := by_rfl f_trial_CheckTest_r2.eq_1
theorem e_trial_CheckTest_r3 : type_of% f_trial_CheckTest_r3.eq_1 := by_rfl f_trial_CheckTest_r3.eq_1
theorem e_trial_CheckTest_r4 : type_of% f_trial_CheckTest_r4.eq_1 := by_rfl f_trial_CheckTest_r4.eq_1
theorem e_trial_CheckTest_r5 : type_of% f_trial_CheckTest_r5.eq_1 := by_rfl f_trial_CheckTest_r5.eq_1
theorem e_trial_CheckTest_r6 : type_of% f_trial_CheckTest_r6.eq_1 := by_rfl f_trial_CheckTest_r6.eq_1
theorem e_trial_CheckTest_r7 : type_of% f_trial_CheckTest_r7.eq_1 := by_rfl f_trial_CheckTest_r7.eq_1
theorem e_trial_CheckTest_r8 : type_of% f_trial_CheckTest_r8.eq_1 := by_rfl f_trial_CheckTest_r8.eq_1
theorem e_trial_CheckTest_r9 : type_of% f_trial_CheckTest_r9.eq_1 := by_rfl f_trial_CheckTest_r9.eq_1
theorem e_trial_CheckTest_r10 : type_of% f_trial_CheckTest_r10.eq_1 := by_rfl f_trial_CheckTest_r10.eq_1
theorem e_trial_CheckTest_l11 : type_of% f_trial_CheckTest_l11.eq_1 := by_rfl f_trial_CheckTest_l11.eq_1
theorem e_trial_CheckTest_r12 : type_of% f_trial_CheckTest_r12.eq_1 := by_rfl f_trial_CheckTest_r12.eq_1
theorem e_trial_CheckTest : type_of% f_trial_CheckTest.eq_1 := by_rfl f_trial_CheckTest.eq_1
theorem ok_trial_CheckTest : fnC Try.prog a_trial_CheckTest Try.f19 = some f_trial_CheckTest := by kernel_rfl

/-! 20 fumarole/fumarolelaw04.Test -/
def f_law04_Test_r0 : List Abs.Op := [
  ⟨some 1, none, false, .boxi (.t 0)⟩,
  ⟨some 2, none, false, .alcv [] [(.int .i64 0), (.int .i64 0), (.int .i64 0), (.int .i64 0), (.int .i64 0), (.int .i64 0), .nils]⟩]

def f_law04_Test_r1 : List Abs.Op := [
  ⟨some 5, none, true, .fadr 0 (.t 1)⟩,
  ⟨some 6, none, true, .ld true 2 (.t 5)⟩,
  ⟨some 7, none, true, .call false (.c (.fn i_law04_Range [] [])) [(.t 6)]⟩,
  ⟨some 8, none, true, .fadr 2 (.t 1)⟩,
  ⟨some 9, none, true, .ld true 2 (.t 8)⟩,
  ⟨some 10, none, true, .call false (.c (.fn i_law04_Range [] [])) [(.t 9)]⟩,
  ⟨some 11, none, true, .fadr 4 (.t 1)⟩,
  ⟨some 12, none, true, .ld true 2 (.t 11)⟩,
  ⟨some 13, none, true, .call false (.c (.fn i_law04_Range [] [])) [(.t 12)]⟩,
  ⟨some 14, none, true, .bld [(.int .i64 0), (.int .i64 0), (.int .i64 0), (.int .i64 0), (.int .i64 0), (.int .i64 0), .nils] [(0, 2, (.t 7)), (2, 2, (.t 10)), (4, 2, (.t 13))]⟩,
  ⟨some 3, none, true, .alcv [] [(.int .i64 0), (.int .i64 0), (.int .i64 0), (.int .i64 0), (.int .i64 0), (.int .i64 0), .nils]⟩,
  ⟨none, none, false, .stv 3 [(6, 3)] 7 3 (.t 14)⟩]

def f_law04_Test_r2 : List Abs.Op := [
  ⟨some 4, none, false, .mv (.c (.int .i64 0))⟩]

def f_law04_Test_r3 : List Abs.Op := [
  ⟨some 15, none, false, .mv (.t 4)⟩,
  ⟨some 16, none, false, .fadr 6 (.t 1)⟩,
  ⟨some 17, none, false, .ld false 1 (.t 16)⟩,
  ⟨some 18, none, false, .lenS (.t 17)⟩,
  ⟨some 19, none, false, .bin .lss (.t 15) (.t 18)⟩]

def f_law04_Test_r4 : List Abs.Op := [
  ⟨some 22, none, true, .fadr 6 (.t 3)⟩,
  ⟨some 23, none, true, .ldv 3 false 1 22⟩,
  ⟨some 24, none, true, .fadr 6 (.t 1)⟩,
  ⟨some 25, none, true, .ld false 1 (.t 24)⟩,
  ⟨some 26, none, true, .mv (.t 4)⟩,
  ⟨some 27, none, true, .idxS 3 (.t 25) (.t 26)⟩,
  ⟨some 28, none, true, .fadr 0 (.t 27)⟩,
  ⟨some 29, none, true, .ld false 1 (.t 28)⟩,
  ⟨some 30, none, true, .fadr 6 (.t 1)⟩,
  ⟨some 31, none, true, .ld false 1 (.t 30)⟩,
  ⟨some 32, none, true, .mv (.t 4)⟩,
  ⟨some 33, none, true, .idxS 3 (.t 31) (.t 32)⟩,
  ⟨some 34, none, true, .fadr 1 (.t 33)⟩,
  ⟨some 35, none, true, .ld true 2 (.t 34)⟩,
  ⟨some 36, none, true, .call false (.c (.fn i_law04_Range [] [])) [(.t 35)]⟩,
  ⟨some 37, none, true, .bld [(.int .i64 0), (.int .i64 0), (.int .i64 0)] [(0, 1, (.t 29)), (1, 2, (.t 36))]⟩,
  ⟨some 38, none, true, .bsi 1 3 [(.int .i64 0), (.int .i64 0), (.int .i64 0)] [(0, 3, (.t 37))]⟩,
  ⟨some 39, none, false, .app 3 24 (.t 23) (.t 38)⟩,
  ⟨some 40, none, false, .fadr 6 (.t 3)⟩,
  ⟨none, none, false, .stv 3 [(0, 3)] 1 40 (.t 39)⟩]

def f_law04_Test_r5 : List Abs.Op := [
  ⟨some 20, none, false, .mv (.t 4)⟩,
  ⟨some 21, none, false, .bin .add (.t 20) (.c (.int .i64 1))⟩,
  ⟨some 4, none, false, .mv (.t 21)⟩]

def f_law04_Test_l6 : Abs.Cmd :=
  (.seq (.seq (.reg [1, 2, 3, 4, 19] f_law04_Test_r3) (.ite (.t 19) .nop (.exit 0))) (.seq (.blk 1 (.reg [1, 2, 3, 4] f_law04_Test_r4)) (.reg [1, 2, 3, 4] f_law04_Test_r5)))

def f_law04_Test_r7 : List Abs.Op := [
  ⟨some 41, none, false, .ldv 3 true 7 3⟩,
  ⟨none, none, false, .stv 2 [] 7 2 (.t 41)⟩]

def a_law04_Test : Ann := ⟨[(6, [2]), (4, [1, 2, 3, 4]), (5, [1, 2, 3, 4]), (3, [1, 2, 3, 4, 19]), (2, [1, 2, 3, 4]), (1, [1, 2, 3]), (0, [1, 2])], [(0, [1, 2, 3, 4])], [], [2, 3], [2, 3], [(1011, [(6, 3)]), (5019, [(0, 3)])], [], [], [], []⟩
def f_law04_Test : Abs.Fn := ⟨1, [.v 2 true 7],
  (.seq (.reg [1, 2] f_law04_Test_r0) (.seq (.reg [1, 2, 3] f_law04_Test_r1) (.seq (.seq (.reg [1, 2, 3, 4] f_law04_Test_r2) (.blk 0 (.loop [1, 2, 3, 4] false f_law04_Test_l6))) (.seq (.reg [2] f_law04_Test_r7) .ret))))⟩

theorem e_law04_Test_r0 : type_of% f_law04_Test_r0.eq_1 := by_rfl f_law04_Test_r0.eq_1
theorem e_law04_Test_r1 : type_of% f_law04_Test_r1.eq_1 := by_rfl f_law04_Test_r1.eq_1
theorem e_law04_Test_r2 : type_of% f_law04_Test_r2.eq_1 := by_rfl f_law04_Test_r2.eq_1
theorem e_law04_Test_r3 : type_of% f_law04_Test_r3.eq_1 := by_rfl f_law04_Test_r3.eq_1
theorem e_law04_Test_r4 : type_of% f_law04_Test_r4.eq_1 := by_rfl f_law04_Test_r4.eq_1
theorem e_law04_Test_r5 : type_of% f_law04_Test_r5.eq_1 := by_rfl f_law04_Test_r5.eq_1
theorem e_law04_Test_l6 : type_of% f_law04_Test_l6.eq_1 := by_rfl f_law04_Test_l6.eq_1
theorem e_law04_Test_r7 : type_of% f_law04_Test_r7.eq_1 := by_rfl f_law04_Test_r7.eq_1
theorem e_law04_Test : type_of% f_law04_Test.eq_1 := by_rfl f_law04_Test.eq_1
theorem ok_law04_Test : fnC Try.prog a_law04_Test Try.f20 = some f_law04_Test := by kernel_rfl

/-! 21 fumarole/fumaroleref04.TestFault -/
def f_ref04_TestFault_r0 : List Abs.Op := [
  ⟨some 1, none, false, .boxi (.t 0)⟩,
  ⟨some 2, none, false, .mv (.c (.int .i64 0))⟩]

def f_ref04_TestFault_r1 : List Abs.Op := [
  ⟨some 4, none, false, .fadr 6 (.t 1)⟩,
  ⟨some 5, none, false, .ld false 1 (.t 4)⟩,
  ⟨some 6, none, false, .lenS (.t 5)⟩,
  ⟨some 7, none, false, .bin .gtr (.t 6) (.c (.int .i64 12))⟩]

def f_ref04_TestFault_r2 : List Abs.Op := [
  ⟨some 2, none, false, .mv (.c (.int .i64 3))⟩]

def f_ref04_TestFault_r3 : List Abs.Op := [
  ⟨some 8, none, false, .fadr 0 (.t 1)⟩,
  ⟨some 9, none, false, .ld true 2 (.t 8)⟩,
  ⟨some 10, none, false, .call false (.c (.fn i_ref04_Right [] [])) [(.t 9), (.c (.int .i64 0)), (.c (.int .i64 100000))]⟩,
  ⟨some 11, none, false, .un .not (.t 10)⟩,
  ⟨some 12, none, false, .mv (.t 11)⟩,
  ⟨some 13, some (12, false), false, .fadr 2 (.t 1)⟩,
  ⟨some 14, some (12, false), false, .ld true 2 (.t 13)⟩,
  ⟨some 15, some (12, false), false, .call false (.c (.fn i_ref04_Right [] [])) [(.t 14), (.c (.int .i64 0)), (.c (.int .i64 10000))]⟩,
  ⟨some 16, some (12, false), false, .un .not (.t 15)⟩,
  ⟨some 17, none, false, .pick (.t 12) (.c (.bool true)) (.t 16)⟩,
  ⟨some 18, none, false, .mv (.t 17)⟩,
  ⟨some 19, some (18, false), false, .fadr 4 (.t 1)⟩,
  ⟨some 20, some (18, false), false, .ld true 2 (.t 19)⟩,
  ⟨some 21, some (18, false), false, .call false (.c (.fn i_ref04_Right [] [])) [(.t 20), (.c (.int .i64 0)), (.c (.int .i64 1000))]⟩,
  ⟨some 22, some (18, false), false, .un .not (.t 21)⟩,
  ⟨some 23, none, false, .pick (.t 18) (.c (.bool true)) (.t 22)⟩,
  ⟨some 24, none, false, .mv (.t 23)⟩,
  ⟨some 25, some (24, false), false, .fadr 2 (.t 1)⟩,
  ⟨some 26, some (24, false), false, .fadr 1 (.t 25)⟩,
  ⟨some 27, some (24, false), false, .ld false 1 (.t 26)⟩,
  ⟨some 28, some (24, false), false, .fadr 2 (.t 1)⟩,
  ⟨some 29, some (24, false), false, .fadr 0 (.t 28)⟩,
  ⟨some 30, some (24, false), false, .ld false 1 (.t 29)⟩,
  ⟨some 31, some (24, false), false, .bin .sub (.t 27) (.t 30)⟩,
  ⟨some 32, some (24, false), false, .bin .gtr (.t 31) (.c (.int .i64 39))⟩,
  ⟨some 33, none, false, .pick (.t 24) (.c (.bool true)) (.t 32)⟩,
  ⟨some 34, none, false, .mv (.t 33)⟩,
  ⟨some 35, some (34, false), false, .fadr 4 (.t 1)⟩,
  ⟨some 36, some (34, false), false, .fadr 1 (.t 35)⟩,
  ⟨some 37, some (34, false), false, .ld false 1 (.t 36)⟩,
  ⟨some 38, some (34, false), false, .fadr 4 (.t 1)⟩,
  ⟨some 39, some (34, false), false, .fadr 0 (.t 38)⟩,
  ⟨some 40, some (34, false), false, .ld false 1 (.t 39)⟩,
  ⟨some 41, some (34, false), false, .bin .sub (.t 37) (.t 40)⟩,
  ⟨some 42, some (34, false), false, .bin .gtr (.t 41) (.c (.int .i64 39))⟩,
  ⟨some 43, none, false, .pick (.t 34) (.c (.bool true)) (.t 42)⟩]

def f_ref04_TestFault_r4 : List Abs.Op := [
  ⟨some 2, none, false, .mv (.c (.int .i64 1))⟩]

def f_ref04_TestFault_r5 : List Abs.Op := [
  ⟨some 3, none, false, .mv (.c (.int .i64 0))⟩]

def f_ref04_TestFault_r6 : List Abs.Op := [
  ⟨some 44, none, false, .mv (.t 3)⟩,
  ⟨some 45, none, false, .fadr 6 (.t 1)⟩,
  ⟨some 46, none, false, .ld false 1 (.t 45)⟩,
  ⟨some 47, none, false, .lenS (.t 46)⟩,
  ⟨some 48, none, false, .bin .lss (.t 44) (.t 47)⟩]

def f_ref04_TestFault_r7 : List Abs.Op := [
  ⟨some 51, none, false, .fadr 6 (.t 1)⟩,
  ⟨some 52, none, false, .ld false 1 (.t 51)⟩,
  ⟨some 53, none, false, .mv (.t 3)⟩,
  ⟨some 54, none, false, .idxS 3 (.t 52) (.t 53)⟩,
  ⟨some 55, none, false, .fadr 0 (.t 54)⟩,
  ⟨some 56, none, false, .ld false 1 (.t 55)⟩,
  ⟨some 57, none, false, .call false (.c (.fn i_ref04_In [] [])) [(.t 56), (.c (.int .i64 0)), (.c (.int .i64 1000))]⟩,
  ⟨some 58, none, false, .un .not (.t 57)⟩,
  ⟨some 59, none, false, .mv (.t 58)⟩,
  ⟨some 60, some (59, false), false, .fadr 6 (.t 1)⟩,
  ⟨some 61, some (59, false), false, .ld false 1 (.t 60)⟩,
  ⟨some 62, some (59, false), false, .mv (.t 3)⟩,
  ⟨some 63, some (59, false), false, .idxS 3 (.t 61) (.t 62)⟩,
  ⟨some 64, some (59, false), false, .fadr 1 (.t 63)⟩,
  ⟨some 65, some (59, false), false, .ld true 2 (.t 64)⟩,
  ⟨some 66, some (59, false), false, .call false (.c (.fn i_ref04_Right [] [])) [(.t 65), (.c (.int .i64 (-2000000000))), (.c (.int .i64 2000000000))]⟩,
  ⟨some 67, some (59, false), false, .un .not (.t 66)⟩,
  ⟨some 68, none, false, .pick (.t 59) (.c (.bool true)) (.t 67)⟩]

def f_ref04_TestFault_r8 : List Abs.Op := [
  ⟨some 2, none, false, .mv (.c (.int .i64 1))⟩]

def f_ref04_TestFault_r9 : List Abs.Op := [
  ⟨some 49, none, false, .mv (.t 3)⟩,
  ⟨some 50, none, false, .bin .add (.t 49) (.c (.int .i64 1))⟩,
  ⟨some 3, none, false, .mv (.t 50)⟩]

def f_ref04_TestFault_l10 : Abs.Cmd :=
  (.seq (.seq (.reg [1, 3, 48] f_ref04_TestFault_r6) (.ite (.t 48) .nop (.exit 0))) (.seq (.blk 1 (.seq (.reg [1, 3, 68] f_ref04_TestFault_r7) (.ite (.t 68) (.seq (.reg [2] f_ref04_TestFault_r8) .ret) .nop))) (.reg [1, 3] f_ref04_TestFault_r9)))

def f_ref04_TestFault_r11 : List Abs.Op := [
  ⟨some 2, none, false, .mv (.c (.int .i64 0))⟩]

def a_ref04_TestFault : Ann := ⟨[(10, [2]), (7, [1, 3]), (9, [2]), (8, [1, 3, 68]), (6, [1, 3, 48]), (5, [1, 3]), (4, [2]), (3, [1, 43]), (2, [2]), (1, [1, 7]), (0, [1])], [(0, [1, 3])], [], [], [], [], [], [], [], []⟩
def f_ref04_TestFault : Abs.Fn := ⟨1, [.t 2],
  (.seq (.reg [1] f_ref04_TestFault_r0) (.seq (.seq (.reg [1, 7] f_ref04_TestFault_r1) (.ite (.t 7) (.seq (.reg [2] f_ref04_TestFault_r2) .ret) .nop)) (.seq (.seq (.reg [1, 43] f_ref04_TestFault_r3) (.ite (.t 43) (.seq (.reg [2] f_ref04_TestFault_r4) .ret) .nop)) (.seq (.seq (.reg [1, 3] f_ref04_TestFault_r5) (.blk 0 (.loop [1, 3] false f_ref04_TestFault_l10))) (.seq (.reg [2] f_ref04_TestFault_r11) .ret)))))⟩

theorem e_ref04_TestFault_r0 : type_of% f_ref04_TestFault_r0.eq_1 := by_rfl f_ref04_TestFault_r0.eq_1
theorem e_ref04_TestFault_r1 : type_of% f_ref04_TestFault_r1.eq_1 := by_rfl f_ref04_TestFault_r1.eq_1
theorem e_ref04_TestFault_r2 : type_of% f_ref04_TestFault_r2.eq_1 := by_rfl f_ref04_TestFault_r2.eq_1
theorem e_ref04_TestFault_r3 : type_of% f_ref04_TestFault_r3.eq_1 := by_rfl f_ref04_TestFault_r3.eq_1
theorem e_ref04_TestFault_r4 : type_of% f_ref04_TestFault_r4.eq_1 := by_rfl f_ref04_TestFault_r4.eq_1
theorem e_ref04_TestFault_r5 : type_of% f_ref04_TestFault_r5.eq_1 := by_rfl f_ref04_TestFault_r5.eq_1
theorem e_ref04_TestFault_r6 : type_of% f_ref04_TestFault_r6.eq_1 := by_rfl f_ref04_TestFault_r6.eq_1
theorem e_ref04_TestFault_r7 : type_of% f_ref04_TestFault_r7.eq_1 := by_rfl f_ref04_TestFault_r7.eq_1
theorem e_ref04_TestFault_r8 : type_of% f_ref04_TestFault_r8.eq_1 := by_rfl f_ref04_TestFault_r8.eq_1
theorem e_ref04_TestFault_r9 : type_of% f_ref04_TestFault_r9.eq_1 := by_rfl f_ref04_TestFault_r9.eq_1
theorem e_ref04_TestFault_l10 : type_of% f_ref04_TestFault_l10.eq_1 := by_rfl f_ref04_TestFault_l10.eq_1
theorem e_ref04_TestFault_r11 : type_of% f_ref04_TestFault_r11.eq_1 := by_rfl f_ref04_TestFault_r11.eq_1
theorem e_ref04_TestFault : type_of% f_ref04_TestFault.eq_1 := by_rfl f_ref04_TestFault.eq_1
theorem ok_ref04_TestFault : fnC Try.prog a_ref04_TestFault Try.f21 = some f_ref04_TestFault := by kernel_rfl

/-! 22 fumarole/trial.Agrees -/
def f_trial_Agrees_r0 : List Abs.Op := [
  ⟨some 2, none, false, .boxi (.t 0)⟩,
  ⟨some 3, none, false, .boxi (.t 1)⟩,
  ⟨some 4, none, false, .mv (.c (.bool false))⟩]

def f_trial_Agrees_r1 : List Abs.Op := [
  ⟨some 7, none, false, .ld true 7 (.t 2)⟩,
  ⟨some 8, none, false, .call false (.c (.fn i_trial_CheckTest [] [])) [(.t 7)]⟩,
  ⟨some 9, none, false, .bin .neq (.t 8) (.c (.int .i64 0))⟩,
  ⟨some 10, none, false, .mv (.t 9)⟩,
  ⟨some 11, some (10, false), false, .fadr 0 (.t 2)⟩,
  ⟨some 12, some (10, false), false, .ld true 2 (.t 11)⟩,
  ⟨some 13, some (10, false), false, .fadr 0 (.t 3)⟩,
  ⟨some 14, some (10, false), false, .ld false 1 (.t 13)⟩,
  ⟨some 15, some (10, false), false, .call false (.c (.fn i_trial_Range_has [] [])) [(.t 12), (.t 14)]⟩,
  ⟨some 16, some (10, false), false, .un .not (.t 15)⟩,
  ⟨some 17, none, false, .pick (.t 10) (.c (.bool true)) (.t 16)⟩,
  ⟨some 18, none, false, .mv (.t 17)⟩,
  ⟨some 19, some (18, false), false, .fadr 2 (.t 2)⟩,
  ⟨some 20, some (18, false), false, .ld true 2 (.t 19)⟩,
  ⟨some 21, some (18, false), false, .fadr 1 (.t 3)⟩,
  ⟨some 22, some (18, false), false, .ld false 1 (.t 21)⟩,
  ⟨some 23, some (18, false), false, .call false (.c (.fn i_trial_Range_has [] [])) [(.t 20), (.t 22)]⟩,
  ⟨some 24, some (18, false), false, .un .not (.t 23)⟩,
  ⟨some 25, none, false, .pick (.t 18) (.c (.bool true)) (.t 24)⟩,
  ⟨some 26, none, false, .mv (.t 25)⟩,
  ⟨some 27, some (26, false), false, .fadr 4 (.t 2)⟩,
  ⟨some 28, some (26, false), false, .ld true 2 (.t 27)⟩,
  ⟨some 29, some (26, false), false, .fadr 2 (.t 3)⟩,
  ⟨some 30, some (26, false), false, .ld false 1 (.t 29)⟩,
  ⟨some 31, some (26, false), false, .call false (.c (.fn i_trial_Range_has [] [])) [(.t 28), (.t 30)]⟩,
  ⟨some 32, some (26, false), false, .un .not (.t 31)⟩,
  ⟨some 33, none, false, .pick (.t 26) (.c (.bool true)) (.t 32)⟩]

def f_trial_Agrees_r2 : List Abs.Op := [
  ⟨some 4, none, false, .mv (.c (.bool false))⟩]

def f_trial_Agrees_r3 : List Abs.Op := [
  ⟨some 34, none, false, .fadr 6 (.t 2)⟩,
  ⟨some 35, none, false, .ld false 1 (.t 34)⟩,
  ⟨some 36, none, false, .lenS (.t 35)⟩,
  ⟨some 37, none, false, .mv (.c (.int .i64 0))⟩]

def f_trial_Agrees_r4 : List Abs.Op := [
  ⟨some 38, none, false, .bin .lss (.t 37) (.t 36)⟩]

def f_trial_Agrees_r5 : List Abs.Op := [
  ⟨some 39, none, false, .idxS 3 (.t 35) (.t 37)⟩,
  ⟨some 40, none, false, .ld true 3 (.t 39)⟩,
  ⟨some 6, none, false, .alcv [] [(.int .i64 0), (.int .i64 0), (.int .i64 0)]⟩,
  ⟨none, none, false, .stv 6 [] 3 6 (.t 40)⟩]

def f_trial_Agrees_r6 : List Abs.Op := [
  ⟨some 41, none, true, .fadr 1 (.t 6)⟩,
  ⟨some 42, none, true, .ldv 6 true 2 41⟩,
  ⟨some 43, none, true, .ld true 3 (.t 3)⟩,
  ⟨some 44, none, true, .fadr 0 (.t 6)⟩,
  ⟨some 45, none, true, .ldv 6 false 1 44⟩,
  ⟨some 46, none, true, .call false (.c (.fn i_trial_Curve_drop [] [])) [(.t 43), (.t 45)]⟩,
  ⟨some 47, none, false, .call false (.c (.fn i_trial_Range_has [] [])) [(.t 42), (.t 46)]⟩,
  ⟨some 48, none, false, .un .not (.t 47)⟩]

def f_trial_Agrees_r7 : List Abs.Op := [
  ⟨some 4, none, false, .mv (.c (.bool false))⟩]

def f_trial_Agrees_r8 : List Abs.Op := [
  ⟨some 49, none, false, .bin .add (.t 37) (.c (.int .i64 1))⟩,
  ⟨some 37, none, false, .mv (.t 49)⟩]

def f_trial_Agrees_l9 : Abs.Cmd :=
  (.seq (.reg [3, 35, 36, 37, 38] f_trial_Agrees_r4) (.seq (.ite (.t 38) .nop (.exit 0)) (.seq (.blk 1 (.seq (.reg [3, 6, 35, 36, 37] f_trial_Agrees_r5) (.seq (.reg [3, 35, 36, 37, 48] f_trial_Agrees_r6) (.ite (.t 48) (.seq (.reg [4] f_trial_Agrees_r7) .ret) .nop)))) (.reg [3, 35, 36, 37] f_trial_Agrees_r8))))

def f_trial_Agrees_r10 : List Abs.Op := [
  ⟨some 4, none, false, .mv (.c (.bool true))⟩]

def a_trial_Agrees : Ann := ⟨[(9, [4]), (8, [3, 35, 36, 37]), (7, [4]), (6, [3, 35, 36, 37, 48]), (5, [3, 6, 35, 36, 37]), (4, [3, 35, 36, 37, 38]), (3, [3, 35, 36, 37]), (2, [4]), (1, [2, 3, 33]), (0, [2, 3])], [(0, [3, 35, 36, 37])], [], [6], [6], [], [], [], [], []⟩
def f_trial_Agrees : Abs.Fn := ⟨2, [.t 4],
  (.seq (.reg [2, 3] f_trial_Agrees_r0) (.seq (.seq (.reg [2, 3, 33] f_trial_Agrees_r1) (.ite (.t 33) (.seq (.reg [4] f_trial_Agrees_r2) .ret) .nop)) (.seq (.seq (.reg [3, 35, 36, 37] f_trial_Agrees_r3) (.blk 0 (.loop [3, 35, 36, 37] false f_trial_Agrees_l9))) (.seq (.reg [4] f_trial_Agrees_r10) .ret))))⟩

theorem e_trial_Agrees_r0 : type_of% f_trial_Agrees_r0.eq_1 := by_rfl f_trial_Agrees_r0.eq_1
theorem e_trial_Agrees_r1 : type_of% f_trial_Agrees_r1.eq_1 := by_rfl f_trial_Agrees_r1.eq_1
theorem e_trial_Agrees_r2 : type_of% f_trial_Agrees_r2.eq_1 := by_rfl f_trial_Agrees_r2.eq_1
theorem e_trial_Agrees_r3 : type_of% f_trial_Agrees_r3.eq_1 := by_rfl f_trial_Agrees_r3.eq_1
theorem e_trial_Agrees_r4 : type_of% f_trial_Agrees_r4.eq_1 := by_rfl f_trial_Agrees_r4.eq_1
theorem e_trial_Agrees_r5 : type_of% f_trial_Agrees_r5.eq_1 := by_rfl f_trial_Agrees_r5.eq_1
theorem e_trial_Agrees_r6 : type_of% f_trial_Agrees_r6.eq_1 := by_rfl f_trial_Agrees_r6.eq_1
theorem e_trial_Agrees_r7 : type_of% f_trial_Agrees_r7.eq_1 := by_rfl f_trial_Agrees_r7.eq_1
theorem e_trial_Agrees_r8 : type_of% f_trial_Agrees_r8.eq_1 := by_rfl f_trial_Agrees_r8.eq_1
theorem e_trial_Agrees_l9 : type_of% f_trial_Agrees_l9.eq_1 := by_rfl f_trial_Agrees_l9.eq_1
theorem e_trial_Agrees_r10 : type_of% f_trial_Agrees_r10.eq_1 := by_rfl f_trial_Agrees_r10.eq_1
theorem e_trial_Agrees : type_of% f_trial_Agrees.eq_1 := by_rfl f_trial_Agrees.eq_1
theorem ok_trial_Agrees : fnC Try.prog a_trial_Agrees Try.f22 = some f_trial_Agrees := by kernel_rfl

/-! 23 fumarole/fumaroleref04.Agrees -/
def f_ref04_Agrees_r0 : List Abs.Op := [
  ⟨some 2, none, false, .boxi (.t 0)⟩,
  ⟨some 3, none, false, .boxi (.t 1)⟩,
  ⟨some 4, none, false, .mv (.c (.bool false))⟩]

def f_ref04_Agrees_r1 : List Abs.Op := [
  ⟨some 6, none, false, .fadr 0 (.t 3)⟩,
  ⟨some 7, none, false, .ld false 1 (.t 6)⟩,
  ⟨some 8, none, false, .fadr 0 (.t 2)⟩,
  ⟨some 9, none, false, .fadr 0 (.t 8)⟩,
  ⟨some 10, none, false, .ld false 1 (.t 9)⟩,
  ⟨some 11, none, false, .fadr 0 (.t 2)⟩,
  ⟨some 12, none, false, .fadr 1 (.t 11)⟩,
  ⟨some 13, none, false, .ld false 1 (.t 12)⟩,
  ⟨some 14, none, false, .call false (.c (.fn i_ref04_In [] [])) [(.t 7), (.t 10), (.t 13)]⟩,
  ⟨some 15, none, false, .un .not (.t 14)⟩,
  ⟨some 16, none, false, .mv (.t 15)⟩,
  ⟨some 17, some (16, false), false, .fadr 1 (.t 3)⟩,
  ⟨some 18, some (16, false), false, .ld false 1 (.t 17)⟩,
  ⟨some 19, some (16, false), false, .fadr 2 (.t 2)⟩,
  ⟨some 20, some (16, false), false, .fadr 0 (.t 19)⟩,
  ⟨some 21, some (16, false), false, .ld false 1 (.t 20)⟩,
  ⟨some 22, some (16, false), false, .fadr 2 (.t 2)⟩,
  ⟨some 23, some (16, false), false, .fadr 1 (.t 22)⟩,
  ⟨some 24, some (16, false), false, .ld false 1 (.t 23)⟩,
  ⟨some 25, some (16, false), false, .call false (.c (.fn i_ref04_In [] [])) [(.t 18), (.t 21), (.t 24)]⟩,
  ⟨some 26, some (16, false), false, .un .not (.t 25)⟩,
  ⟨some 27, none, false, .pick (.t 16) (.c (.bool true)) (.t 26)⟩,
  ⟨some 28, none, false, .mv (.t 27)⟩,
  ⟨some 29, some (28, false), false, .fadr 2 (.t 3)⟩,
  ⟨some 30, some (28, false), false, .ld false 1 (.t 29)⟩,
  ⟨some 31, some (28, false), false, .fadr 4 (.t 2)⟩,
  ⟨some 32, some (28, false), false, .fadr 0 (.t 31)⟩,
  ⟨some 33, some (28, false), false, .ld false 1 (.t 32)⟩,
  ⟨some 34, some (28, false), false, .fadr 4 (.t 2)⟩,
  ⟨some 35, some (28, false), false, .fadr 1 (.t 34)⟩,
  ⟨some 36, some (28, false), false, .ld false 1 (.t 35)⟩,
  ⟨some 37, some (28, false), false, .call false (.c (.fn i_ref04_In [] [])) [(.t 30), (.t 33), (.t 36)]⟩,
  ⟨some 38, some (28, false), false, .un .not (.t 37)⟩,
  ⟨some 39, none, false, .pick (.t 28) (.c (.bool true)) (.t 38)⟩]

def f_ref04_Agrees_r2 : List Abs.Op := [
  ⟨some 4, none, false, .mv (.c (.bool false))⟩]

def f_ref04_Agrees_r3 : List Abs.Op := [
  ⟨some 5, none, false, .mv (.c (.int .i64 0))⟩]

def f_ref04_Agrees_r4 : List Abs.Op := [
  ⟨some 40, none, false, .mv (.t 5)⟩,
  ⟨some 41, none, false, .fadr 6 (.t 2)⟩,
  ⟨some 42, none, false, .ld false 1 (.t 41)⟩,
  ⟨some 43, none, false, .lenS (.t 42)⟩,
  ⟨some 44, none, false, .bin .lss (.t 40) (.t 43)⟩]

def f_ref04_Agrees_r5 : List Abs.Op := [
  ⟨some 47, none, true, .ld true 3 (.t 3)⟩,
  ⟨some 48, none, true, .fadr 6 (.t 2)⟩,
  ⟨some 49, none, true, .ld false 1 (.t 48)⟩,
  ⟨some 50, none, true, .mv (.t 5)⟩,
  ⟨some 51, none, true, .idxS 3 (.t 49) (.t 50)⟩,
  ⟨some 52, none, true, .fadr 0 (.t 51)⟩,
  ⟨some 53, none, true, .ld false 1 (.t 52)⟩,
  ⟨some 54, none, true, .call false (.c (.fn i_ref04_Drop [] [])) [(.t 47), (.t 53)]⟩,
  ⟨some 55, none, true, .fadr 6 (.t 2)⟩,
  ⟨some 56, none, true, .ld false 1 (.t 55)⟩,
  ⟨some 57, none, true, .mv (.t 5)⟩,
  ⟨some 58, none, true, .idxS 3 (.t 56) (.t 57)⟩,
  ⟨some 59, none, true, .fadr 1 (.t 58)⟩,
  ⟨some 60, none, true, .fadr 0 (.t 59)⟩,
  ⟨some 61, none, true, .ld false 1 (.t 60)⟩,
  ⟨some 62, none, true, .fadr 6 (.t 2)⟩,
  ⟨some 63, none, true, .ld false 1 (.t 62)⟩,
  ⟨some 64, none, true, .mv (.t 5)⟩,
  ⟨some 65, none, true, .idxS 3 (.t 63) (.t 64)⟩,
  ⟨some 66, none, true, .fadr 1 (.t 65)⟩,
  ⟨some 67, none, true, .fadr 1 (.t 66)⟩,
  ⟨some 68, none, true, .ld false 1 (.t 67)⟩,
  ⟨some 69, none, false, .call false (.c (.fn i_ref04_In [] [])) [(.t 54), (.t 61), (.t 68)]⟩,
  ⟨some 70, none, false, .un .not (.t 69)⟩]

def f_ref04_Agrees_r6 : List Abs.Op := [
  ⟨some 4, none, false, .mv (.c (.bool false))⟩]

def f_ref04_Agrees_r7 : List Abs.Op := [
  ⟨some 45, none, false, .mv (.t 5)⟩,
  ⟨some 46, none, false, .bin .add (.t 45) (.c (.int .i64 1))⟩,
  ⟨some 5, none, false, .mv (.t 46)⟩]

def f_ref04_Agrees_l8 : Abs.Cmd :=
  (.seq (.seq (.reg [2, 3, 5, 44] f_ref04_Agrees_r4) (.ite (.t 44) .nop (.exit 0))) (.seq (.blk 1 (.seq (.reg [2, 3, 5, 70] f_ref04_Agrees_r5) (.ite (.t 70) (.seq (.reg [4] f_ref04_Agrees_r6) .ret) .nop))) (.reg [2, 3, 5] f_ref04_Agrees_r7)))

def f_ref04_Agrees_r9 : List Abs.Op := [
  ⟨some 4, none, false, .mv (.c (.bool true))⟩]

def a_ref04_Agrees : Ann := ⟨[(8, [4]), (5, [2, 3, 5]), (7, [4]), (6, [2, 3, 5, 70]), (4, [2, 3, 5, 44]), (3, [2, 3, 5]), (2, [4]), (1, [2, 3, 39]), (0, [2, 3])], [(0, [2, 3, 5])], [], [], [], [], [], [], [], []⟩
def f_ref04_Agrees : Abs.Fn := ⟨2, [.t 4],
  (.seq (.reg [2, 3] f_ref04_Agrees_r0) (.seq (.seq (.reg [2, 3, 39] f_ref04_Agrees_r1) (.ite (.t 39) (.seq (.reg [4] f_ref04_Agrees_r2) .ret) .nop)) (.seq (.seq (.reg [2, 3, 5] f_ref04_Agrees_r3) (.blk 0 (.loop [2, 3, 5] false f_ref04_Agrees_l8))) (.seq (.reg [4] f_ref04_Agrees_r9) .ret))))⟩

theorem e_ref04_Agrees_r0 : type_of% f_ref04_Agrees_r0.eq_1 := by_rfl f_ref04_Agrees_r0.eq_1
theorem e_ref04_Agrees_r1 : type_of% f_ref04_Agrees_r1.eq_1 := by_rfl f_ref04_Agrees_r1.eq_1
theorem e_ref04_Agrees_r2 : type_of% f_ref04_Agrees_r2.eq_1 := by_rfl f_ref04_Agrees_r2.eq_1
theorem e_ref04_Agrees_r3 : type_of% f_ref04_Agrees_r3.eq_1 := by_rfl f_ref04_Agrees_r3.eq_1
theorem e_ref04_Agrees_r4 : type_of% f_ref04_Agrees_r4.eq_1 := by_rfl f_ref04_Agrees_r4.eq_1
theorem e_ref04_Agrees_r5 : type_of% f_ref04_Agrees_r5.eq_1 := by_rfl f_ref04_Agrees_r5.eq_1
theorem e_ref04_Agrees_r6 : type_of% f_ref04_Agrees_r6.eq_1 := by_rfl f_ref04_Agrees_r6.eq_1
theorem e_ref04_Agrees_r7 : type_of% f_ref04_Agrees_r7.eq_1 := by_rfl f_ref04_Agrees_r7.eq_1
theorem e_ref04_Agrees_l8 : type_of% f_ref04_Agrees_l8.eq_1 := by_rfl f_ref04_Agrees_l8.eq_1
theorem e_ref04_Agrees_r9 : type_of% f_ref04_Agrees_r9.eq_1 := by_rfl f_ref04_Agrees_r9.eq_1
theorem e_ref04_Agrees : type_of% f_ref04_Agrees.eq_1 := by_rfl f_ref04_Agrees.eq_1
theorem ok_ref04_Agrees : fnC Try.prog a_ref04_Agrees Try.f23 = some f_ref04_Agrees := by kernel_rfl

/-! 24 fumarole/trial.Curves -/
def f_trial_Curves_r0 : List Abs.Op := [
  ⟨some 1, none, false, .boxi (.t 0)⟩,
  ⟨some 2, none, false, .alc [] [(.int .i64 0)]⟩,
  ⟨some 3, none, false, .alc [] [(.int .i64 0), (.int .i64 0)]⟩,
  ⟨some 4, none, false, .alc [] [(.int .i64 0), (.int .i64 0)]⟩,
  ⟨some 5, none, false, .alc [] [(.int .i64 0), (.int .i64 0)]⟩,
  ⟨some 6, none, false, .mv (.c (.int .i64 0))⟩]

def f_trial_Curves_r1 : List Abs.Op := [
  ⟨some 12, none, false, .ldi true 7 (.t 1)⟩,
  ⟨some 13, none, false, .call false (.c (.fn i_trial_CheckTest [] [])) [(.t 12)]⟩,
  ⟨some 7, none, false, .mv (.t 13)⟩]

def f_trial_Curves_r2 : List Abs.Op := [
  ⟨some 14, none, false, .mv (.t 7)⟩,
  ⟨some 15, none, false, .bin .neq (.t 14) (.c (.int .i64 0))⟩]

def f_trial_Curves_r3 : List Abs.Op := [
  ⟨some 16, none, true, .ld true 2 (.t 3)⟩,
  ⟨some 17, none, true, .ld true 2 (.t 4)⟩,
  ⟨some 18, none, true, .ld true 2 (.t 5)⟩,
  ⟨some 19, none, true, .mv (.t 7)⟩,
  ⟨none, none, true, .stc [3, 4, 5] 1 (.t 2) (.c (.int .i64 0))⟩,
  ⟨none, none, true, .stc [4, 5, 2] 2 (.t 3) (.t 16)⟩,
  ⟨none, none, true, .stc [3, 5, 2] 2 (.t 4) (.t 17)⟩,
  ⟨none, none, true, .stc [3, 4, 2] 2 (.t 5) (.t 18)⟩,
  ⟨some 6, none, false, .mv (.t 19)⟩]

def f_trial_Curves_r4 : List Abs.Op := [
  ⟨some 20, none, false, .ldi true 7 (.t 1)⟩,
  ⟨some 21, none, false, .call true (.c (.fn i_trial_Test_sets [] [])) [(.t 20)]⟩]

def f_trial_Curves_r5 : List Abs.Op := [
  ⟨some 8, none, false, .alcv [] [(.int .i64 0), (.int .i64 0), (.int .i64 0)]⟩,
  ⟨none, none, false, .stv 8 [] 3 8 (.t 22)⟩]

def f_trial_Curves_r6 : List Abs.Op := [
  ⟨some 9, none, false, .alcv [] [(.int .i64 0), (.int .i64 0)]⟩,
  ⟨none, none, false, .stv 9 [] 2 9 (.t 23)⟩]

def f_trial_Curves_r7 : List Abs.Op := [
  ⟨some 24, none, true, .fadr 1 (.t 8)⟩,
  ⟨some 25, none, true, .ldv 8 false 1 24⟩,
  ⟨some 26, none, true, .fadr 1 (.t 8)⟩,
  ⟨some 27, none, true, .ldv 8 false 1 26⟩,
  ⟨some 28, none, true, .bld [(.int .i64 0), (.int .i64 0)] [(0, 1, (.t 25)), (1, 1, (.t 27))]⟩,
  ⟨some 29, none, true, .fadr 2 (.t 8)⟩,
  ⟨some 30, none, true, .ldv 8 false 1 29⟩,
  ⟨some 31, none, true, .fadr 2 (.t 8)⟩,
  ⟨some 32, none, true, .ldv 8 false 1 31⟩,
  ⟨some 33, none, true, .bld [(.int .i64 0), (.int .i64 0)] [(0, 1, (.t 30)), (1, 1, (.t 32))]⟩,
  ⟨some 10, none, true, .alcv [] [(.int .i64 0), (.int .i64 0)]⟩,
  ⟨some 11, none, true, .alcv [] [(.int .i64 0), (.int .i64 0)]⟩,
  ⟨none, none, true, .stv 10 [] 2 10 (.t 28)⟩,
  ⟨none, none, false, .stv 11 [] 2 11 (.t 33)⟩]

def f_trial_Curves_r8 : List Abs.Op := [
  ⟨some 34, none, false, .ld false 1 (.t 2)⟩,
  ⟨some 35, none, false, .bin .eql (.t 34) (.c (.int .i64 0))⟩]

def f_trial_Curves_r9 : List Abs.Op := [
  ⟨some 36, none, true, .ldv 9 true 2 9⟩,
  ⟨some 37, none, true, .ldv 10 true 2 10⟩,
  ⟨some 38, none, true, .ldv 11 true 2 11⟩,
  ⟨none, none, true, .stc [4, 5] 2 (.t 3) (.t 36)⟩,
  ⟨none, none, true, .stc [3, 5] 2 (.t 4) (.t 37)⟩,
  ⟨none, none, false, .stc [3, 4] 2 (.t 5) (.t 38)⟩]

def f_trial_Curves_r10 : List Abs.Op := [
  ⟨some 39, none, false, .ld false 1 (.t 2)⟩,
  ⟨some 40, none, false, .fadr 1 (.t 9)⟩,
  ⟨some 41, none, false, .ldv 9 false 1 40⟩,
  ⟨some 42, none, false, .fadr 0 (.t 9)⟩,
  ⟨some 43, none, false, .ldv 9 false 1 42⟩,
  ⟨some 44, none, false, .bin .sub (.t 41) (.t 43)⟩,
  ⟨some 45, none, false, .bin .add (.t 44) (.c (.int .i64 1))⟩,
  ⟨some 46, none, false, .bin .add (.t 39) (.t 45)⟩,
  ⟨none, none, false, .st [] 1 (.t 2) (.t 46)⟩]

def f_trial_Curves_r11 : List Abs.Op := [
  ⟨some 47, none, true, .ld true 2 (.t 3)⟩,
  ⟨some 48, none, true, .ldv 9 true 2 9⟩,
  ⟨some 49, none, true, .call false (.c (.fn i_trial_span [] [])) [(.t 47), (.t 48)]⟩,
  ⟨some 50, none, true, .ld true 2 (.t 4)⟩,
  ⟨some 51, none, true, .ldv 10 true 2 10⟩,
  ⟨some 52, none, true, .call false (.c (.fn i_trial_span [] [])) [(.t 50), (.t 51)]⟩,
  ⟨some 53, none, true, .ld true 2 (.t 5)⟩,
  ⟨some 54, none, true, .ldv 11 true 2 11⟩,
  ⟨some 55, none, false, .call false (.c (.fn i_trial_span [] [])) [(.t 53), (.t 54)]⟩,
  ⟨none, none, false, .stc [4, 5] 2 (.t 3) (.t 49)⟩,
  ⟨none, none, false, .stc [3, 5] 2 (.t 4) (.t 52)⟩,
  ⟨none, none, false, .stc [3, 4] 2 (.t 5) (.t 55)⟩]

def f_trial_Curves_a12 : Abs.Cmd :=
  (.seq (.reg [2, 3, 4, 5, 8, 23] f_trial_Curves_r5) (.reg [2, 3, 4, 5, 8, 9] f_trial_Curves_r6))

def f_trial_Curves_b12 : Abs.Cmd :=
  (.blk 1 (.seq (.reg [2, 3, 4, 5, 9, 10, 11] f_trial_Curves_r7) (.seq (.seq (.reg [2, 3, 4, 5, 9, 10, 11, 35] f_trial_Curves_r8) (.ite (.t 35) (.reg [2, 3, 4, 5, 9, 10, 11] f_trial_Curves_r9) .nop)) (.seq (.reg [3, 4, 5, 9, 10, 11] f_trial_Curves_r10) (.reg [] f_trial_Curves_r11)))))

def f_trial_Curves_r13 : List Abs.Op := [
  ⟨some 56, none, false, .ld false 1 (.t 2)⟩,
  ⟨some 57, none, false, .bin .eql (.t 56) (.c (.int .i64 0))⟩]

def f_trial_Curves_r14 : List Abs.Op := [
  ⟨some 58, none, true, .ld true 2 (.t 3)⟩,
  ⟨some 59, none, true, .ld true 2 (.t 4)⟩,
  ⟨some 60, none, true, .ld true 2 (.t 5)⟩,
  ⟨none, none, true, .stc [3, 4, 5] 1 (.t 2) (.c (.int .i64 0))⟩,
  ⟨none, none, true, .stc [4, 5, 2] 2 (.t 3) (.t 58)⟩,
  ⟨none, none, true, .stc [3, 5, 2] 2 (.t 4) (.t 59)⟩,
  ⟨none, none, false, .stc [3, 4, 2] 2 (.t 5) (.t 60)⟩,
  ⟨some 6, none, false, .mv (.c (.int .i64 7))⟩]

def f_trial_Curves_r15 : List Abs.Op := [
  ⟨some 61, none, true, .ld false 1 (.t 2)⟩,
  ⟨some 62, none, true, .ld true 2 (.t 3)⟩,
  ⟨some 63, none, true, .ld true 2 (.t 4)⟩,
  ⟨some 64, none, true, .ld true 2 (.t 5)⟩,
  ⟨none, none, true, .stc [3, 4, 5] 1 (.t 2) (.t 61)⟩,
  ⟨none, none, true, .stc [2, 4, 5] 2 (.t 3) (.t 62)⟩,
  ⟨none, none, true, .stc [2, 3, 5] 2 (.t 4) (.t 63)⟩,
  ⟨none, none, false, .stc [2, 3, 4] 2 (.t 5) (.t 64)⟩,
  ⟨some 6, none, false, .mv (.c (.int .i64 0))⟩]

def a_trial_Curves : Ann := ⟨[(14, [2, 3, 4, 5, 6]), (13, [2, 3, 4, 5, 6]), (12, [2, 3, 4, 5, 57]), (11, []), (10, [3, 4, 5, 9, 10, 11]), (9, [2, 3, 4, 5, 9, 10, 11]), (8, [2, 3, 4, 5, 9, 10, 11, 35]), (7, [2, 3, 4, 5, 9, 10, 11]), (6, [2, 3, 4, 5, 8, 9]), (5, [2, 3, 4, 5, 8, 23]), (4, [2, 3, 4, 5, 6, 21]), (3, [2, 3, 4, 5, 6]), (2, [1, 2, 3, 4, 5, 6, 7, 15]), (1, [1, 2, 3, 4, 5, 6, 7]), (0, [1, 2, 3, 4, 5, 6])], [(0, [2, 3, 4, 5, 6])], [], [2, 3, 4, 5, 8, 9, 10, 11], [8, 9, 10, 11], [], [4001], [], [1], [(3004, some [3, 4, 5]), (3005, some [4, 5, 2]), (3006, some [3, 5, 2]), (3007, some [3, 4, 2]), (9003, some [4, 5]), (9004, some [3, 5]), (9005, some [3, 4]), (11009, some [4, 5]), (11010, some [3, 5]), (11011, some [3, 4]), (13003, some [3, 4, 5]), (13004, some [4, 5, 2]), (13005, some [3, 5, 2]), (13006, some [3, 4, 2]), (14004, some [3, 4, 5]), (14005, some [2, 4, 5]), (14006, some [2, 3, 5]), (14007, some [2, 3, 4])]⟩
def f_trial_Curves : Abs.Fn := ⟨1, [.c 2 false 1, .c 3 true 2, .c 4 true 2, .c 5 true 2, .t 6],
  (.seq (.reg [1, 2, 3, 4, 5, 6] f_trial_Curves_r0) (.seq (.seq (.reg [1, 2, 3, 4, 5, 6, 7] f_trial_Curves_r1) (.seq (.reg [1, 2, 3, 4, 5, 6, 7, 15] f_trial_Curves_r2) (.ite (.t 15) (.seq (.reg [2, 3, 4, 5, 6] f_trial_Curves_r3) .ret) .nop))) (.seq (.seq (.reg [2, 3, 4, 5, 6, 21] f_trial_Curves_r4) (.blk 0 (.rngf [2, 3, 4, 5, 6] (.t 21) [22, 23] f_trial_Curves_a12 f_trial_Curves_b12))) (.seq (.seq (.reg [2, 3, 4, 5, 57] f_trial_Curves_r13) (.ite (.t 57) (.seq (.reg [2, 3, 4, 5, 6] f_trial_Curves_r14) .ret) .nop)) (.seq (.reg [2, 3, 4, 5, 6] f_trial_Curves_r15) .ret)))))⟩

theorem e_trial_Curves_r0 : type_of% f_trial_Curves_r0.eq_1 := by_rfl f_trial_Curves_r0.eq_1
theorem e_trial_Curves_r1 : type_of% f_trial_Curves_r1.eq_1 := by_rfl f_trial_Curves_r1.eq_1
theorem e_trial_Curves_r2 : type_of% f_trial_Curves_r2.eq_1 := by_rfl f_trial_Curves_r2.eq_1
theorem e_trial_Curves_r3 : type_of% f_trial_Curves_r3.eq_1 := by_rfl f_trial_Curves_r3.eq_1
theorem e_trial_Curves_r4 : type_of% f_trial_Curves_r4.eq_1 := by_rfl f_trial_Curves_r4.eq_1
theorem e_trial_Curves_r5 : type_of% f_trial_Curves_r5.eq_1 := by_rfl f_trial_Curves_r5.eq_1
theorem e_trial_Curves_r6 : type_of% f_trial_Curves_r6.eq_1 := by_rfl f_trial_Curves_r6.eq_1
theorem e_trial_Curves_r7 : type_of% f_trial_Curves_r7.eq_1 := by_rfl f_trial_Curves_r7.eq_1
theorem e_trial_Curves_r8 : type_of% f_trial_Curves_r8.eq_1 := by_rfl f_trial_Curves_r8.eq_1
theorem e_trial_Curves_r9 : type_of% f_trial_Curves_r9.eq_1 := by_rfl f_trial_Curves_r9.eq_1
theorem e_trial_Curves_r10 : type_of% f_trial_Curves_r10.eq_1 := by_rfl f_trial_Curves_r10.eq_1
theorem e_trial_Curves_r11 : type_of% f_trial_Curves_r11.eq_1 := by_rfl f_trial_Curves_r11.eq_1
theorem e_trial_Curves_a12 : type_of% f_trial_Curves_a12.eq_1 := by_rfl f_trial_Curves_a12.eq_1
theorem e_trial_Curves_b12 : type_of% f_trial_Curves_b12.eq_1 := by_rfl f_trial_Curves_b12.eq_1
theorem e_trial_Curves_r13 : type_of% f_trial_Curves_r13.eq_1 := by_rfl f_trial_Curves_r13.eq_1
theorem e_trial_Curves_r14 : type_of% f_trial_Curves_r14.eq_1 := by_rfl f_trial_Curves_r14.eq_1
theorem e_trial_Curves_r15 : type_of% f_trial_Curves_r15.eq_1 := by_rfl f_trial_Curves_r15.eq_1
theorem e_trial_Curves : type_of% f_trial_Curves.eq_1 := by_rfl f_trial_Curves.eq_1
theorem ok_trial_Curves : fnC Try.prog a_trial_Curves Try.f24 = some f_trial_Curves := by kernel_rfl

/-! 25 fumarole/fumarolelaw04.asked -/
def f_law04_asked_r0 : List Abs.Op := [
  ⟨some 3, none, false, .boxi (.t 0)⟩,
  ⟨some 6, none, false, .mv (.c (.int .i64 0))⟩]

def f_law04_asked_r1 : List Abs.Op := [
  ⟨some 12, none, false, .ld true 7 (.t 3)⟩,
  ⟨some 13, none, false, .call false (.c (.fn i_ref04_TestFault [] [])) [(.t 12)]⟩,
  ⟨some 7, none, false, .mv (.t 13)⟩]

def f_law04_asked_r2 : List Abs.Op := [
  ⟨some 14, none, false, .mv (.t 7)⟩,
  ⟨some 15, none, false, .bin .neq (.t 14) (.c (.int .i64 0))⟩]

def f_law04_asked_r3 : List Abs.Op := [
  ⟨some 16, none, false, .mv (.t 7)⟩,
  ⟨some 6, none, false, .mv (.t 16)⟩]

def f_law04_asked_r4 : List Abs.Op := [
  ⟨some 17, none, false, .mv (.t 1)⟩]

def f_law04_asked_r5 : List Abs.Op := [
  ⟨some 18, none, false, .mv (.t 2)⟩,
  ⟨some 6, none, false, .mv (.t 18)⟩]

def f_law04_asked_r6 : List Abs.Op := [
  ⟨some 20, none, false, .ld true 7 (.t 3)⟩,
  ⟨some 21, none, false, .call false (.c (.fn i_ref04_Curves [] [])) [(.t 20)]⟩,
  ⟨some 19, none, false, .mv (.t 21)⟩,
  ⟨some 22, none, false, .ext (.t 19) 0⟩,
  ⟨some 23, none, false, .ext (.t 19) 1⟩,
  ⟨some 24, none, false, .ext (.t 19) 2⟩,
  ⟨some 25, none, false, .ext (.t 19) 3⟩,
  ⟨some 9, none, false, .alcv [] [(.int .i64 0), (.int .i64 0)]⟩,
  ⟨some 10, none, false, .alcv [] [(.int .i64 0), (.int .i64 0)]⟩,
  ⟨some 11, none, false, .alcv [] [(.int .i64 0), (.int .i64 0)]⟩,
  ⟨some 8, none, false, .mv (.t 22)⟩,
  ⟨none, none, false, .stv 9 [] 2 9 (.t 23)⟩,
  ⟨none, none, false, .stv 10 [] 2 10 (.t 24)⟩,
  ⟨none, none, false, .stv 11 [] 2 11 (.t 25)⟩]

def f_law04_asked_r7 : List Abs.Op := [
  ⟨some 26, none, false, .mv (.t 8)⟩,
  ⟨some 27, none, false, .bin .eql (.t 26) (.c (.int .i64 0))⟩]

def f_law04_asked_r8 : List Abs.Op := [
  ⟨some 6, none, false, .mv (.c (.int .i64 7))⟩]

def f_law04_asked_r9 : List Abs.Op := [
  ⟨some 6, none, false, .mv (.c (.int .i64 0))⟩]

def a_law04_asked : Ann := ⟨[(9, [6]), (8, [6]), (7, [27]), (6, [8]), (5, [6]), (4, [2, 3, 17]), (3, [6]), (2, [1, 2, 3, 7, 15]), (1, [1, 2, 3, 7]), (0, [1, 2, 3])], [], [], [9, 10, 11], [9, 10, 11], [], [], [], [], []⟩
def f_law04_asked : Abs.Fn := ⟨3, [.t 6],
  (.seq (.reg [1, 2, 3] f_law04_asked_r0) (.seq (.seq (.reg [1, 2, 3, 7] f_law04_asked_r1) (.seq (.reg [1, 2, 3, 7, 15] f_law04_asked_r2) (.ite (.t 15) (.seq (.reg [6] f_law04_asked_r3) .ret) .nop))) (.seq (.seq (.reg [2, 3, 17] f_law04_asked_r4) (.ite (.t 17) (.seq (.reg [6] f_law04_asked_r5) .ret) .nop)) (.seq (.seq (.reg [8] f_law04_asked_r6) (.seq (.reg [27] f_law04_asked_r7) (.ite (.t 27) (.seq (.reg [6] f_law04_asked_r8) .ret) .nop))) (.seq (.reg [6] f_law04_asked_r9) .ret)))))⟩

theorem e_law04_asked_r0 : type_of% f_law04_asked_r0.eq_1 := by_rfl f_law04_asked_r0.eq_1
theorem e_law04_asked_r1 : type_of% f_law04_asked_r1.eq_1 := by_rfl f_law04_asked_r1.eq_1
theorem e_law04_asked_r2 : type_of% f_law04_asked_r2.eq_1 := by_rfl f_law04_asked_r2.eq_1
theorem e_law04_asked_r3 : type_of% f_law04_asked_r3.eq_1 := by_rfl f_law04_asked_r3.eq_1
theorem e_law04_asked_r4 : type_of% f_law04_asked_r4.eq_1 := by_rfl f_law04_asked_r4.eq_1
theorem e_law04_asked_r5 : type_of% f_law04_asked_r5.eq_1 := by_rfl f_law04_asked_r5.eq_1
theorem e_law04_asked_r6 : type_of% f_law04_asked_r6.eq_1 := by_rfl f_law04_asked_r6.eq_1
theorem e_law04_asked_r7 : type_of% f_law04_asked_r7.eq_1 := by_rfl f_law04_asked_r7.eq_1
theorem e_law04_asked_r8 : type_of% f_law04_asked_r8.eq_1 := by_rfl f_law04_asked_r8.eq_1
theorem e_law04_asked_r9 : type_of% f_law04_asked_r9.eq_1 := by_rfl f_law04_asked_r9.eq_1
theorem e_law04_asked : type_of% f_law04_asked.eq_1 := by_rfl f_law04_asked.eq_1
theorem ok_law04_asked : fnC Try.prog a_law04_asked Try.f25 = some f_law04_asked := by kernel_rfl

/-! 26 fumarole/fumaroleref04.Curves -/
def f_ref04_Curves_r0 : List Abs.Op := [
  ⟨some 1, none, false, .boxi (.t 0)⟩,
  ⟨some 2, none, false, .mv (.c (.int .i64 0))⟩,
  ⟨some 3, none, false, .alcv [] [(.int .i64 0), (.int .i64 0)]⟩,
  ⟨some 4, none, false, .alcv [] [(.int .i64 0), (.int .i64 0)]⟩,
  ⟨some 5, none, false, .alcv [] [(.int .i64 0), (.int .i64 0)]⟩]

def f_ref04_Curves_r1 : List Abs.Op := [
  ⟨some 6, none, false, .mv (.c (.int .i64 0))⟩]

def f_ref04_Curves_r2 : List Abs.Op := [
  ⟨some 7, none, false, .alcv [] [(.int .i64 0), (.int .i64 0)]⟩,
  ⟨some 8, none, false, .alcv [] [(.int .i64 0), (.int .i64 0)]⟩,
  ⟨some 9, none, false, .alcv [] [(.int .i64 0), (.int .i64 0)]⟩]

def f_ref04_Curves_r3 : List Abs.Op := [
  ⟨some 13, none, false, .fadr 2 (.t 1)⟩,
  ⟨some 14, none, false, .fadr 0 (.t 13)⟩,
  ⟨some 15, none, false, .ld false 1 (.t 14)⟩,
  ⟨some 10, none, false, .mv (.t 15)⟩]

def f_ref04_Curves_r4 : List Abs.Op := [
  ⟨some 16, none, false, .mv (.t 10)⟩,
  ⟨some 17, none, false, .fadr 2 (.t 1)⟩,
  ⟨some 18, none, false, .fadr 1 (.t 17)⟩,
  ⟨some 19, none, false, .ld false 1 (.t 18)⟩,
  ⟨some 20, none, false, .bin .leq (.t 16) (.t 19)⟩]

def f_ref04_Curves_r5 : List Abs.Op := [
  ⟨some 23, none, false, .fadr 4 (.t 1)⟩,
  ⟨some 24, none, false, .fadr 0 (.t 23)⟩,
  ⟨some 25, none, false, .ld false 1 (.t 24)⟩,
  ⟨some 11, none, false, .mv (.t 25)⟩]

def f_ref04_Curves_r6 : List Abs.Op := [
  ⟨some 26, none, false, .mv (.t 11)⟩,
  ⟨some 27, none, false, .fadr 4 (.t 1)⟩,
  ⟨some 28, none, false, .fadr 1 (.t 27)⟩,
  ⟨some 29, none, false, .ld false 1 (.t 28)⟩,
  ⟨some 30, none, false, .bin .leq (.t 26) (.t 29)⟩]

def f_ref04_Curves_r7 : List Abs.Op := [
  ⟨some 33, none, false, .ld true 7 (.t 1)⟩,
  ⟨some 34, none, false, .mv (.t 10)⟩,
  ⟨some 35, none, false, .mv (.t 11)⟩,
  ⟨some 36, none, false, .call false (.c (.fn i_ref04_Set [] [])) [(.t 33), (.t 34), (.t 35)]⟩,
  ⟨some 12, none, false, .alcv [] [(.int .i64 0), (.int .i64 0)]⟩,
  ⟨none, none, false, .stv 12 [] 2 12 (.t 36)⟩]

def f_ref04_Curves_r8 : List Abs.Op := [
  ⟨some 37, none, false, .fadr 0 (.t 12)⟩,
  ⟨some 38, none, false, .ldv 12 false 1 37⟩,
  ⟨some 39, none, false, .fadr 1 (.t 12)⟩,
  ⟨some 40, none, false, .ldv 12 false 1 39⟩,
  ⟨some 41, none, false, .bin .gtr (.t 38) (.t 40)⟩]

def f_ref04_Curves_r9 : List Abs.Op := [
  ⟨some 42, none, false, .mv (.t 6)⟩,
  ⟨some 43, none, false, .bin .eql (.t 42) (.c (.int .i64 0))⟩]

def f_ref04_Curves_r10 : List Abs.Op := [
  ⟨some 44, none, false, .ldv 12 true 2 12⟩,
  ⟨some 45, none, false, .mv (.t 10)⟩,
  ⟨some 46, none, false, .mv (.t 10)⟩,
  ⟨some 47, none, false, .bld [(.int .i64 0), (.int .i64 0)] [(0, 1, (.t 45)), (1, 1, (.t 46))]⟩,
  ⟨some 48, none, false, .mv (.t 11)⟩,
  ⟨some 49, none, false, .mv (.t 11)⟩,
  ⟨some 50, none, false, .bld [(.int .i64 0), (.int .i64 0)] [(0, 1, (.t 48)), (1, 1, (.t 49))]⟩,
  ⟨none, none, false, .stv 7 [] 2 7 (.t 44)⟩,
  ⟨none, none, false, .stv 8 [] 2 8 (.t 47)⟩,
  ⟨none, none, false, .stv 9 [] 2 9 (.t 50)⟩]

def f_ref04_Curves_r11 : List Abs.Op := [
  ⟨some 51, none, false, .mv (.t 6)⟩,
  ⟨some 52, none, false, .fadr 1 (.t 12)⟩,
  ⟨some 53, none, false, .ldv 12 false 1 52⟩,
  ⟨some 54, none, false, .bin .add (.t 51) (.t 53)⟩,
  ⟨some 55, none, false, .fadr 0 (.t 12)⟩,
  ⟨some 56, none, false, .ldv 12 false 1 55⟩,
  ⟨some 57, none, false, .bin .sub (.t 54) (.t 56)⟩,
  ⟨some 58, none, false, .bin .add (.t 57) (.c (.int .i64 1))⟩,
  ⟨some 6, none, false, .mv (.t 58)⟩]

def f_ref04_Curves_r12 : List Abs.Op := [
  ⟨some 59, none, true, .ldv 7 true 2 7⟩,
  ⟨some 60, none, true, .ldv 12 true 2 12⟩,
  ⟨some 61, none, true, .call false (.c (.fn i_ref04_Span [] [])) [(.t 59), (.t 60)]⟩,
  ⟨some 62, none, true, .ldv 8 true 2 8⟩,
  ⟨some 63, none, true, .mv (.t 10)⟩,
  ⟨some 64, none, true, .mv (.t 10)⟩,
  ⟨some 65, none, true, .bld [(.int .i64 0), (.int .i64 0)] [(0, 1, (.t 63)), (1, 1, (.t 64))]⟩,
  ⟨some 66, none, true, .call false (.c (.fn i_ref04_Span [] [])) [(.t 62), (.t 65)]⟩,
  ⟨some 67, none, true, .ldv 9 true 2 9⟩,
  ⟨some 68, none, true, .mv (.t 11)⟩,
  ⟨some 69, none, true, .mv (.t 11)⟩,
  ⟨some 70, none, true, .bld [(.int .i64 0), (.int .i64 0)] [(0, 1, (.t 68)), (1, 1, (.t 69))]⟩,
  ⟨some 71, none, false, .call false (.c (.fn i_ref04_Span [] [])) [(.t 67), (.t 70)]⟩,
  ⟨none, none, false, .stv 7 [] 2 7 (.t 61)⟩,
  ⟨none, none, false, .stv 8 [] 2 8 (.t 66)⟩,
  ⟨none, none, false, .stv 9 [] 2 9 (.t 71)⟩]

def f_ref04_Curves_r13 : List Abs.Op := [
  ⟨some 31, none, false, .mv (.t 11)⟩,
  ⟨some 32, none, false, .bin .add (.t 31) (.c (.int .i64 1))⟩,
  ⟨some 11, none, false, .mv (.t 32)⟩]

def f_ref04_Curves_l14 : Abs.Cmd :=
  (.seq (.seq (.reg [1, 3, 4, 5, 6, 7, 8, 9, 10, 11, 30] f_ref04_Curves_r6) (.ite (.t 30) .nop (.exit 2))) (.seq (.blk 3 (.seq (.reg [1, 3, 4, 5, 6, 7, 8, 9, 10, 11, 12] f_ref04_Curves_r7) (.seq (.seq (.reg [1, 3, 4, 5, 6, 7, 8, 9, 10, 11, 12, 41] f_ref04_Curves_r8) (.ite (.t 41) (.exit 3) .nop)) (.seq (.seq (.reg [1, 3, 4, 5, 6, 7, 8, 9, 10, 11, 12, 43] f_ref04_Curves_r9) (.ite (.t 43) (.reg [1, 3, 4, 5, 6, 7, 8, 9, 10, 11, 12] f_ref04_Curves_r10) .nop)) (.seq (.reg [1, 3, 4, 5, 6, 7, 8, 9, 10, 11, 12] f_ref04_Curves_r11) (.reg [1, 3, 4, 5, 6, 7, 8, 9, 10, 11] f_ref04_Curves_r12)))))) (.reg [1, 3, 4, 5, 6, 7, 8, 9, 10, 11] f_ref04_Curves_r13)))

def f_ref04_Curves_r15 : List Abs.Op := [
  ⟨some 21, none, false, .mv (.t 10)⟩,
  ⟨some 22, none, false, .bin .add (.t 21) (.c (.int .i64 1))⟩,
  ⟨some 10, none, false, .mv (.t 22)⟩]

def f_ref04_Curves_l16 : Abs.Cmd :=
  (.seq (.seq (.reg [1, 3, 4, 5, 6, 7, 8, 9, 10, 20] f_ref04_Curves_r4) (.ite (.t 20) .nop (.exit 0))) (.seq (.blk 1 (.seq (.reg [1, 3, 4, 5, 6, 7, 8, 9, 10, 11] f_ref04_Curves_r5) (.blk 2 (.loop [1, 3, 4, 5, 6, 7, 8, 9, 10, 11] false f_ref04_Curves_l14)))) (.reg [1, 3, 4, 5, 6, 7, 8, 9, 10] f_ref04_Curves_r15)))

def f_ref04_Curves_r17 : List Abs.Op := [
  ⟨some 72, none, true, .mv (.t 6)⟩,
  ⟨some 73, none, true, .ldv 7 true 2 7⟩,
  ⟨some 74, none, true, .ldv 8 true 2 8⟩,
  ⟨some 75, none, true, .ldv 9 true 2 9⟩,
  ⟨some 2, none, true, .mv (.t 72)⟩,
  ⟨none, none, true, .stv 3 [] 2 3 (.t 73)⟩,
  ⟨none, none, true, .stv 4 [] 2 4 (.t 74)⟩,
  ⟨none, none, false, .stv 5 [] 2 5 (.t 75)⟩]

def a_ref04_Curves : Ann := ⟨[(15, [2, 3, 4, 5]), (5, [1, 3, 4, 5, 6, 7, 8, 9, 10]), (8, [1, 3, 4, 5, 6, 7, 8, 9, 10, 11]), (14, [1, 3, 4, 5, 6, 7, 8, 9, 10, 11]), (13, [1, 3, 4, 5, 6, 7, 8, 9, 10, 11, 12]), (12, [1, 3, 4, 5, 6, 7, 8, 9, 10, 11, 12]), (11, [1, 3, 4, 5, 6, 7, 8, 9, 10, 11, 12, 43]), (10, [1, 3, 4, 5, 6, 7, 8, 9, 10, 11, 12, 41]), (9, [1, 3, 4, 5, 6, 7, 8, 9, 10, 11, 12]), (7, [1, 3, 4, 5, 6, 7, 8, 9, 10, 11, 30]), (6, [1, 3, 4, 5, 6, 7, 8, 9, 10, 11]), (4, [1, 3, 4, 5, 6, 7, 8, 9, 10, 20]), (3, [1, 3, 4, 5, 6, 7, 8, 9, 10]), (2, [1, 3, 4, 5, 6, 7, 8, 9]), (1, [1, 3, 4, 5, 6]), (0, [1, 3, 4, 5])], [(2, [1, 3, 4, 5, 6, 7, 8, 9, 10, 11]), (0, [1, 3, 4, 5, 6, 7, 8, 9, 10])], [], [3, 4, 5, 7, 8, 9, 12], [3, 4, 5, 7, 8, 9, 12], [], [], [], [], []⟩
def f_ref04_Curves : Abs.Fn := ⟨1, [.t 2, .v 3 true 2, .v 4 true 2, .v 5 true 2],
  (.seq (.reg [1, 3, 4, 5] f_ref04_Curves_r0) (.seq (.reg [1, 3, 4, 5, 6] f_ref04_Curves_r1) (.seq (.reg [1, 3, 4, 5, 6, 7, 8, 9] f_ref04_Curves_r2) (.seq (.seq (.reg [1, 3, 4, 5, 6, 7, 8, 9, 10] f_ref04_Curves_r3) (.blk 0 (.loop [1, 3, 4, 5, 6, 7, 8, 9, 10] false f_ref04_Curves_l16))) (.seq (.reg [2, 3, 4, 5] f_ref04_Curves_r17) .ret)))))⟩

theorem e_ref04_Curves_r0 : type_of% f_ref04_Curves_r0.eq_1 := by_rfl f_ref04_Curves_r0.eq_1
theorem e_ref04_Curves_r1 : type_of% f_ref04_Curves_r1.eq_1 := by_rfl f_ref04_Curves_r1.eq_1
theorem e_ref04_Curves_r2 : type_of% f_ref04_Curves_r2.eq_1 := by_rfl f_ref04_Curves_r2.eq_1
theorem e_ref04_Curves_r3 : type_of% f_ref04_Curves_r3.eq_1 := by_rfl f_ref04_Curves_r3.eq_1
theorem e_ref04_Curves_r4 : type_of% f_ref04_Curves_r4.eq_1 := by_rfl f_ref04_Curves_r4.eq_1
theorem e_ref04_Curves_r5 : type_of% f_ref04_Curves_r5.eq_1 := by_rfl f_ref04_Curves_r5.eq_1
theorem e_ref04_Curves_r6 : type_of% f_ref04_Curves_r6.eq_1 := by_rfl f_ref04_Curves_r6.eq_1
theorem e_ref04_Curves_r7 : type_of% f_ref04_Curves_r7.eq_1 := by_rfl f_ref04_Curves_r7.eq_1
theorem e_ref04_Curves_r8 : type_of% f_ref04_Curves_r8.eq_1 := by_rfl f_ref04_Curves_r8.eq_1
theorem e_ref04_Curves_r9 : type_of% f_ref04_Curves_r9.eq_1 := by_rfl f_ref04_Curves_r9.eq_1
theorem e_ref04_Curves_r10 : type_of% f_ref04_Curves_r10.eq_1 := by_rfl f_ref04_Curves_r10.eq_1
theorem e_ref04_Curves_r11 : type_of% f_ref04_Curves_r11.eq_1 := by_rfl f_ref04_Curves_r11.eq_1
theorem e_ref04_Curves_r12 : type_of% f_ref04_Curves_r12.eq_1 := by_rfl f_ref04_Curves_r12.eq_1
theorem e_ref04_Curves_r13 : type_of% f_ref04_Curves_r13.eq_1 := by_rfl f_ref04_Curves_r13.eq_1
theorem e_ref04_Curves_l14 : type_of% f_ref04_Curves_l14.eq_1 := by_rfl f_ref04_Curves_l14.eq_1
theorem e_ref04_Curves_r15 : type_of% f_ref04_Curves_r15.eq_1 := by_rfl f_ref04_Curves_r15.eq_1
theorem e_ref04_Curves_l16 : type_of% f_ref04_Curves_l16.eq_1 := by_rfl f_ref04_Curves_l16.eq_1
theorem e_ref04_Curves_r17 : type_of% f_ref04_Curves_r17.eq_1 := by_rfl f_ref04_Curves_r17.eq_1
theorem e_ref04_Curves : type_of% f_ref04_Curves.eq_1 := by_rfl f_ref04_Curves.eq_1
theorem ok_ref04_Curves : fnC Try.prog a_ref04_Curves Try.f26 = some f_ref04_Curves := by kernel_rfl

/-! 27 fumarole/fumarolelaw04.Range -/
def f_law04_Range_r0 : List Abs.Op := [
  ⟨some 1, none, false, .boxi (.t 0)⟩,
  ⟨some 2, none, false, .alcv [] [(.int .i64 0), (.int .i64 0)]⟩]

def f_law04_Range_r1 : List Abs.Op := [
  ⟨some 3, none, false, .fadr 0 (.t 1)⟩,
  ⟨some 4, none, false, .ld false 1 (.t 3)⟩,
  ⟨some 5, none, false, .fadr 1 (.t 1)⟩,
  ⟨some 6, none, false, .ld false 1 (.t 5)⟩,
  ⟨some 7, none, false, .bld [(.int .i64 0), (.int .i64 0)] [(0, 1, (.t 4)), (1, 1, (.t 6))]⟩,
  ⟨none, none, false, .stv 2 [] 2 2 (.t 7)⟩]

def a_law04_Range : Ann := ⟨[(1, [2]), (0, [1, 2])], [], [], [2], [2], [], [], [], [], []⟩
def f_law04_Range : Abs.Fn := ⟨1, [.v 2 true 2],
  (.seq (.reg [1, 2] f_law04_Range_r0) (.seq (.reg [2] f_law04_Range_r1) .ret))⟩

theorem e_law04_Range_r0 : type_of% f_law04_Range_r0.eq_1 := by_rfl f_law04_Range_r0.eq_1
theorem e_law04_Range_r1 : type_of% f_law04_Range_r1.eq_1 := by_rfl f_law04_Range_r1.eq_1
theorem e_law04_Range : type_of% f_law04_Range.eq_1 := by_rfl f_law04_Range.eq_1
theorem ok_law04_Range : fnC Try.prog a_law04_Range Try.f27 = some f_law04_Range := by kernel_rfl

/-! 28 fumarole/fumaroleref04.In -/
def f_ref04_In_r0 : List Abs.Op := [
  ⟨some 6, none, false, .mv (.c (.bool false))⟩]

def f_ref04_In_r1 : List Abs.Op := [
  ⟨some 7, none, false, .mv (.t 0)⟩,
  ⟨some 8, none, false, .mv (.t 1)⟩,
  ⟨some 9, none, false, .bin .geq (.t 7) (.t 8)⟩,
  ⟨some 10, none, false, .mv (.t 9)⟩,
  ⟨some 11, some (10, true), false, .mv (.t 0)⟩,
  ⟨some 12, some (10, true), false, .mv (.t 2)⟩,
  ⟨some 13, some (10, true), false, .bin .leq (.t 11) (.t 12)⟩,
  ⟨some 14, none, false, .pick (.t 10) (.t 13) (.c (.bool false))⟩,
  ⟨some 6, none, false, .mv (.t 14)⟩]

def a_ref04_In : Ann := ⟨[(1, [6]), (0, [0, 1, 2])], [], [], [], [], [], [], [], [], []⟩
def f_ref04_In : Abs.Fn := ⟨3, [.t 6],
  (.seq (.reg [0, 1, 2] f_ref04_In_r0) (.seq (.reg [6] f_ref04_In_r1) .ret))⟩

theorem e_ref04_In_r0 : type_of% f_ref04_In_r0.eq_1 := by_rfl f_ref04_In_r0.eq_1
theorem e_ref04_In_r1 : type_of% f_ref04_In_r1.eq_1 := by_rfl f_ref04_In_r1.eq_1
theorem e_ref04_In : type_of% f_ref04_In.eq_1 := by_rfl f_ref04_In.eq_1
theorem ok_ref04_In : fnC Try.prog a_ref04_In Try.f28 = some f_ref04_In := by kernel_rfl

/-! 29 fumarole/fumaroleref04.Right -/
def f_ref04_Right_r0 : List Abs.Op := [
  ⟨some 3, none, false, .boxi (.t 0)⟩,
  ⟨some 6, none, false, .mv (.c (.bool false))⟩]

def f_ref04_Right_r1 : List Abs.Op := [
  ⟨some 7, none, false, .fadr 0 (.t 3)⟩,
  ⟨some 8, none, false, .ld false 1 (.t 7)⟩,
  ⟨some 9, none, false, .mv (.t 1)⟩,
  ⟨some 10, none, false, .mv (.t 2)⟩,
  ⟨some 11, none, false, .call false (.c (.fn i_ref04_In [] [])) [(.t 8), (.t 9), (.t 10)]⟩,
  ⟨some 12, none, false, .mv (.t 11)⟩,
  ⟨some 13, some (12, true), false, .fadr 1 (.t 3)⟩,
  ⟨some 14, some (12, true), false, .ld false 1 (.t 13)⟩,
  ⟨some 15, some (12, true), false, .mv (.t 1)⟩,
  ⟨some 16, some (12, true), false, .mv (.t 2)⟩,
  ⟨some 17, some (12, true), false, .call false (.c (.fn i_ref04_In [] [])) [(.t 14), (.t 15), (.t 16)]⟩,
  ⟨some 18, none, false, .pick (.t 12) (.t 17) (.c (.bool false))⟩,
  ⟨some 19, none, false, .mv (.t 18)⟩,
  ⟨some 20, some (19, true), false, .fadr 0 (.t 3)⟩,
  ⟨some 21, some (19, true), false, .ld false 1 (.t 20)⟩,
  ⟨some 22, some (19, true), false, .fadr 1 (.t 3)⟩,
  ⟨some 23, some (19, true), false, .ld false 1 (.t 22)⟩,
  ⟨some 24, some (19, true), false, .bin .leq (.t 21) (.t 23)⟩,
  ⟨some 25, none, false, .pick (.t 19) (.t 24) (.c (.bool false))⟩,
  ⟨some 6, none, false, .mv (.t 25)⟩]

def a_ref04_Right : Ann := ⟨[(1, [6]), (0, [1, 2, 3])], [], [], [], [], [], [], [], [], []⟩
def f_ref04_Right : Abs.Fn := ⟨3, [.t 6],
  (.seq (.reg [1, 2, 3] f_ref04_Right_r0) (.seq (.reg [6] f_ref04_Right_r1) .ret))⟩

theorem e_ref04_Right_r0 : type_of% f_ref04_Right_r0.eq_1 := by_rfl f_ref04_Right_r0.eq_1
theorem e_ref04_Right_r1 : type_of% f_ref04_Right_r1.eq_1 := by_rfl f_ref04_Right_r1.eq_1
theorem e_ref04_Right : type_of% f_ref04_Right.eq_1 := by_rfl f_ref04_Right.eq_1
theorem ok_ref04_Right : fnC Try.prog a_ref04_Right Try.f29 = some f_ref04_Right := by kernel_rfl

/-! 30 fumarole/fumaroleref04.Drop -/
def f_ref04_Drop_r0 : List Abs.Op := [
  ⟨some 2, none, false, .boxi (.t 0)⟩,
  ⟨some 4, none, false, .mv (.c (.int .i64 0))⟩]

def f_ref04_Drop_r1 : List Abs.Op := [
  ⟨some 5, none, false, .fadr 0 (.t 2)⟩,
  ⟨some 6, none, false, .ld false 1 (.t 5)⟩,
  ⟨some 7, none, false, .fadr 1 (.t 2)⟩,
  ⟨some 8, none, false, .ld false 1 (.t 7)⟩,
  ⟨some 9, none, false, .mv (.t 1)⟩,
  ⟨some 10, none, false, .bin .mul (.t 8) (.t 9)⟩,
  ⟨some 11, none, false, .bin .add (.t 6) (.t 10)⟩,
  ⟨some 12, none, false, .fadr 2 (.t 2)⟩,
  ⟨some 13, none, false, .ld false 1 (.t 12)⟩,
  ⟨some 14, none, false, .mv (.t 1)⟩,
  ⟨some 15, none, false, .bin .mul (.t 13) (.t 14)⟩,
  ⟨some 16, none, false, .mv (.t 1)⟩,
  ⟨some 17, none, false, .bin .mul (.t 15) (.t 16)⟩,
  ⟨some 18, none, false, .bin .add (.t 11) (.t 17)⟩,
  ⟨some 4, none, false, .mv (.t 18)⟩]

def a_ref04_Drop : Ann := ⟨[(1, [4]), (0, [1, 2])], [], [], [], [], [], [], [], [], []⟩
def f_ref04_Drop : Abs.Fn := ⟨2, [.t 4],
  (.seq (.reg [1, 2] f_ref04_Drop_r0) (.seq (.reg [4] f_ref04_Drop_r1) .ret))⟩

theorem e_ref04_Drop_r0 : type_of% f_ref04_Drop_r0.eq_1 := by_rfl f_ref04_Drop_r0.eq_1
theorem e_ref04_Drop_r1 : type_of% f_ref04_Drop_r1.eq_1 := by_rfl f_ref04_Drop_r1.eq_1
theorem e_ref04_Drop : type_of% f_ref04_Drop.eq_1 := by_rfl f_ref04_Drop.eq_1
theorem ok_ref04_Drop : fnC Try.prog a_ref04_Drop Try.f30 = some f_ref04_Drop := by kernel_rfl

/-! 31 fumarole/trial.Drawdown -/
def f_trial_Drawdown_r0 : List Abs.Op := [
  ⟨some 2, none, false, .boxi (.t 0)⟩,
  ⟨some 4, none, false, .alcv [] [(.int .i64 0), (.int .i64 0)]⟩,
  ⟨some 5, none, false, .mv (.c (.int .i64 0))⟩]

def f_trial_Drawdown_r1 : List Abs.Op := [
  ⟨some 9, none, false, .ld true 7 (.t 2)⟩,
  ⟨some 10, none, false, .call false (.c (.fn i_trial_CheckTest [] [])) [(.t 9)]⟩,
  ⟨some 6, none, false, .mv (.t 10)⟩]

def f_trial_Drawdown_r2 : List Abs.Op := [
  ⟨some 11, none, false, .mv (.t 6)⟩,
  ⟨some 12, none, false, .bin .neq (.t 11) (.c (.int .i64 0))⟩]

def f_trial_Drawdown_r3 : List Abs.Op := [
  ⟨some 13, none, false, .bld [(.int .i64 0), (.int .i64 0)] []⟩,
  ⟨some 14, none, false, .mv (.t 6)⟩,
  ⟨none, none, false, .stv 4 [] 2 4 (.t 13)⟩,
  ⟨some 5, none, false, .mv (.t 14)⟩]

def f_trial_Drawdown_r4 : List Abs.Op := [
  ⟨some 15, none, false, .mv (.t 1)⟩,
  ⟨some 16, none, false, .call false (.c (.fn i_trial_within [] [])) [(.t 15), (.c (.int .i64 0)), (.c (.int .i64 1000))]⟩,
  ⟨some 17, none, false, .un .not (.t 16)⟩]

def f_trial_Drawdown_r5 : List Abs.Op := [
  ⟨some 18, none, false, .bld [(.int .i64 0), (.int .i64 0)] []⟩,
  ⟨none, none, false, .stv 4 [] 2 4 (.t 18)⟩,
  ⟨some 5, none, false, .mv (.c (.int .i64 2))⟩]

def f_trial_Drawdown_r6 : List Abs.Op := [
  ⟨some 20, none, false, .ld true 7 (.t 2)⟩,
  ⟨some 21, none, false, .mv (.t 1)⟩,
  ⟨some 22, none, false, .call false (.c (.fn i_trial_Test_drawdown [] [])) [(.t 20), (.t 21)]⟩,
  ⟨some 19, none, false, .mv (.t 22)⟩,
  ⟨some 23, none, false, .ext (.t 19) 0⟩,
  ⟨some 24, none, false, .ext (.t 19) 1⟩,
  ⟨some 7, none, false, .alcv [] [(.int .i64 0), (.int .i64 0)]⟩,
  ⟨none, none, false, .stv 7 [] 2 7 (.t 23)⟩,
  ⟨some 8, none, false, .mv (.t 24)⟩]

def f_trial_Drawdown_r7 : List Abs.Op := [
  ⟨some 25, none, false, .mv (.t 8)⟩,
  ⟨some 26, none, false, .un .not (.t 25)⟩]

def f_trial_Drawdown_r8 : List Abs.Op := [
  ⟨some 27, none, false, .bld [(.int .i64 0), (.int .i64 0)] []⟩,
  ⟨none, none, false, .stv 4 [] 2 4 (.t 27)⟩,
  ⟨some 5, none, false, .mv (.c (.int .i64 7))⟩]

def f_trial_Drawdown_r9 : List Abs.Op := [
  ⟨some 28, none, false, .ldv 7 true 2 7⟩,
  ⟨none, none, false, .stv 4 [] 2 4 (.t 28)⟩,
  ⟨some 5, none, false, .mv (.c (.int .i64 0))⟩]

def a_trial_Drawdown : Ann := ⟨[(9, [4, 5]), (8, [4, 5]), (7, [4, 7, 26]), (6, [4, 7, 8]), (5, [4, 5]), (4, [1, 2, 4, 17]), (3, [4, 5]), (2, [1, 2, 4, 6, 12]), (1, [1, 2, 4, 6]), (0, [1, 2, 4])], [], [], [4, 7], [4, 7], [], [], [], [], []⟩
def f_trial_Drawdown : Abs.Fn := ⟨2, [.v 4 true 2, .t 5],
  (.seq (.reg [1, 2, 4] f_trial_Drawdown_r0) (.seq (.seq (.reg [1, 2, 4, 6] f_trial_Drawdown_r1) (.seq (.reg [1, 2, 4, 6, 12] f_trial_Drawdown_r2) (.ite (.t 12) (.seq (.reg [4, 5] f_trial_Drawdown_r3) .ret) .nop))) (.seq (.seq (.reg [1, 2, 4, 17] f_trial_Drawdown_r4) (.ite (.t 17) (.seq (.reg [4, 5] f_trial_Drawdown_r5) .ret) .nop)) (.seq (.reg [4, 7, 8] f_trial_Drawdown_r6) (.seq (.seq (.reg [4, 7, 26] f_trial_Drawdown_r7) (.ite (.t 26) (.seq (.reg [4, 5] f_trial_Drawdown_r8) .ret) .nop)) (.seq (.reg [4, 5] f_trial_Drawdown_r9) .ret))))))⟩

theorem e_trial_Drawdown_r0 : type_of% f_trial_Drawdown_r0.eq_1 := by_rfl f_trial_Drawdown_r0.eq_1
theorem e_trial_Drawdown_r1 : type_of% f_trial_Drawdown_r1.eq_1 := by_rfl f_trial_Drawdown_r1.eq_1
theorem e_trial_Drawdown_r2 : type_of% f_trial_Drawdown_r2.eq_1 := by_rfl f_trial_Drawdown_r2.eq_1
theorem e_trial_Drawdown_r3 : type_of% f_trial_Drawdown_r3.eq_1 := by_rfl f_trial_Drawdown_r3.eq_1
theorem e_trial_Drawdown_r4 : type_of% f_trial_Drawdown_r4.eq_1 := by_rfl f_trial_Drawdown_r4.eq_1
theorem e_trial_Drawdown_r5 : type_of% f_trial_Drawdown_r5.eq_1 := by_rfl f_trial_Drawdown_r5.eq_1
theorem e_trial_Drawdown_r6 : type_of% f_trial_Drawdown_r6.eq_1 := by_rfl f_trial_Drawdown_r6.eq_1
theorem e_trial_Drawdown_r7 : type_of% f_trial_Drawdown_r7.eq_1 := by_rfl f_trial_Drawdown_r7.eq_1
theorem e_trial_Drawdown_r8 : type_of% f_trial_Drawdown_r8.eq_1 := by_rfl f_trial_Drawdown_r8.eq_1
theorem e_trial_Drawdown_r9 : type_of% f_trial_Drawdown_r9.eq_1 := by_rfl f_trial_Drawdown_r9.eq_1
theorem e_trial_Drawdown : type_of% f_trial_Drawdown.eq_1 := by_rfl f_trial_Drawdown.eq_1
theorem ok_trial_Drawdown : fnC Try.prog a_trial_Drawdown Try.f31 = some f_trial_Drawdown := by kernel_rfl

/-! 36 fumarole/trial.Plan -/
def f_trial_Plan_r0 : List Abs.Op := [
  ⟨some 1, none, false, .boxi (.t 0)⟩,
  ⟨some 2, none, false, .mv (.c .nils)⟩,
  ⟨some 3, none, false, .mv (.c (.int .i64 0))⟩]

def f_trial_Plan_r1 : List Abs.Op := [
  ⟨some 12, none, false, .ld true 3 (.t 1)⟩,
  ⟨some 13, none, false, .call false (.c (.fn i_trial_checked [] [])) [(.t 12)]⟩,
  ⟨some 11, none, false, .mv (.t 13)⟩,
  ⟨some 14, none, false, .ext (.t 11) 0⟩,
  ⟨some 15, none, false, .ext (.t 11) 1⟩,
  ⟨some 4, none, false, .alc [] [(.int .i64 0), (.int .i64 0), .nils, (.int .i64 0), (.int .i64 0), (.int .i64 0), (.int .i64 0), (.int .i64 0), (.int .i64 0), (.int .i64 0), (.int .i64 0), (.int .i64 0), (.int .i64 0)]⟩,
  ⟨none, none, false, .st [] 13 (.t 4) (.t 14)⟩,
  ⟨some 5, none, false, .mv (.t 15)⟩]

def f_trial_Plan_r2 : List Abs.Op := [
  ⟨some 16, none, false, .mv (.t 5)⟩,
  ⟨some 17, none, false, .bin .neq (.t 16) (.c (.int .i64 0))⟩]

def f_trial_Plan_r3 : List Abs.Op := [
  ⟨some 18, none, false, .mv (.t 5)⟩,
  ⟨some 2, none, false, .mv (.c .nils)⟩,
  ⟨some 3, none, false, .mv (.t 18)⟩]

def f_trial_Plan_r4 : List Abs.Op := [
  ⟨some 6, none, false, .alc [(0, 1)] [.nils]⟩]

def f_trial_Plan_r5 : List Abs.Op := [
  ⟨some 19, none, false, .mkf i_trial_Plan_1 [] [(.t 6), (.t 4)]⟩,
  ⟨some 7, none, false, .alc [] [.nilf]⟩,
  ⟨none, none, false, .st [] 1 (.t 7) (.t 19)⟩]

def f_trial_Plan_r6 : List Abs.Op := [
  ⟨some 20, none, false, .mkf i_trial_Plan_2 [] [(.t 1), (.t 4), (.t 7)]⟩,
  ⟨some 8, none, false, .alc [] [.nilf]⟩,
  ⟨none, none, false, .st [] 1 (.t 8) (.t 20)⟩]

def f_trial_Plan_r7 : List Abs.Op := [
  ⟨some 9, none, false, .alc [] [.nilf]⟩]

def f_trial_Plan_r8 : List Abs.Op := [
  ⟨some 21, none, false, .mkf i_trial_Plan_3 [] [(.t 8), (.t 1), (.t 6), (.t 9)]⟩,
  ⟨none, none, false, .st [] 1 (.t 9) (.t 21)⟩]

def f_trial_Plan_r9 : List Abs.Op := [
  ⟨some 10, none, false, .mv (.c (.int .i64 0))⟩]

def f_trial_Plan_r10 : List Abs.Op := [
  ⟨some 22, none, false, .ld false 1 (.t 9)⟩,
  ⟨some 23, none, false, .mv (.t 10)⟩,
  ⟨some 24, none, false, .call false (.t 22) [(.c (.int .i64 0)), (.t 23)]⟩,
  ⟨some 25, none, false, .un .not (.t 24)⟩]

def f_trial_Plan_r11 : List Abs.Op := [
  ⟨some 26, none, false, .mv (.t 10)⟩,
  ⟨some 27, none, false, .bin .add (.t 26) (.c (.int .i64 1))⟩,
  ⟨some 10, none, false, .mv (.t 27)⟩]

def f_trial_Plan_l12 : Abs.Cmd :=
  (.seq (.seq (.reg [6, 9, 10, 25] f_trial_Plan_r10) (.ite (.t 25) .nop (.exit 0))) (.seq (.blk 1 .nop) (.reg [6, 9, 10] f_trial_Plan_r11)))

def f_trial_Plan_r13 : List Abs.Op := [
  ⟨some 28, none, false, .ld false 1 (.t 6)⟩,
  ⟨some 2, none, false, .mv (.t 28)⟩,
  ⟨some 3, none, false, .mv (.c (.int .i64 0))⟩]

def a_trial_Plan : Ann := ⟨[(12, [2, 3]), (11, [6, 9, 10]), (10, [6, 9, 10, 25]), (9, [6, 9, 10]), (8, [6, 9]), (7, [1, 6, 8, 9]), (6, [1, 6, 8]), (5, [1, 4, 6, 7]), (4, [1, 4, 6]), (3, [2, 3]), (2, [1, 4, 5, 17]), (1, [1, 4, 5]), (0, [1])], [(0, [6, 9, 10])], [], [4, 6, 7, 8, 9], [], [(4000, [(0, 1)])], [], [], [], []⟩
def f_trial_Plan : Abs.Fn := ⟨1, [.t 2, .t 3],
  (.seq (.reg [1] f_trial_Plan_r0) (.seq (.reg [1, 4, 5] f_trial_Plan_r1) (.seq (.seq (.reg [1, 4, 5, 17] f_trial_Plan_r2) (.ite (.t 17) (.seq (.reg [2, 3] f_trial_Plan_r3) .ret) .nop)) (.seq (.reg [1, 4, 6] f_trial_Plan_r4) (.seq (.reg [1, 4, 6, 7] f_trial_Plan_r5) (.seq (.reg [1, 6, 8] f_trial_Plan_r6) (.seq (.reg [1, 6, 8, 9] f_trial_Plan_r7) (.seq (.reg [6, 9] f_trial_Plan_r8) (.seq (.seq (.reg [6, 9, 10] f_trial_Plan_r9) (.blk 0 (.loop [6, 9, 10] false f_trial_Plan_l12))) (.seq (.reg [2, 3] f_trial_Plan_r13) .ret))))))))))⟩

theorem e_trial_Plan_r0 : type_of% f_trial_Plan_r0.eq_1 := by_rfl f_trial_Plan_r0.eq_1
theorem e_trial_Plan_r1 : type_of% f_trial_Plan_r1.eq_1 := by_rfl f_trial_Plan_r1.eq_1
theorem e_trial_Plan_r2 : type_of% f_trial_Plan_r2.eq_1 := by_rfl f_trial_Plan_r2.eq_1
theorem e_trial_Plan_r3 : type_of% f_trial_Plan_r3.eq_1 := by_rfl f_trial_Plan_r3.eq_1
theorem e_trial_Plan_r4 : type_of% f_trial_Plan_r4.eq_1 := by_rfl f_trial_Plan_r4.eq_1
theorem e_trial_Plan_r5 : type_of% f_trial_Plan_r5.eq_1 := by_rfl f_trial_Plan_r5.eq_1
theorem e_trial_Plan_r6 : type_of% f_trial_Plan_r6.eq_1 := by_rfl f_trial_Plan_r6.eq_1
theorem e_trial_Plan_r7 : type_of% f_trial_Plan_r7.eq_1 := by_rfl f_trial_Plan_r7.eq_1
theorem e_trial_Plan_r8 : type_of% f_trial_Plan_r8.eq_1 := by_rfl f_trial_Plan_r8.eq_1
theorem e_trial_Plan_r9 : type_of% f_trial_Plan_r9.eq_1 := by_rfl f_trial_Plan_r9.eq_1
theorem e_trial_Plan_r10 : type_of% f_trial_Plan_r10.eq_1 := by_rfl f_trial_Plan_r10.eq_1
theorem e_trial_Plan_r11 : type_of% f_trial_Plan_r11.eq_1 := by_rfl f_trial_Plan_r11.eq_1
theorem e_trial_Plan_l12 : type_of% f_trial_Plan_l12.eq_1 := by_rfl f_trial_Plan_l12.eq_1
theorem e_trial_Plan_r13 : type_of% f_trial_Plan_r13.eq_1 := by_rfl f_trial_Plan_r13.eq_1
theorem e_trial_Plan : type_of% f_trial_Plan.eq_1 := by_rfl f_trial_Plan.eq_1
theorem ok_trial_Plan : fnC Try.prog a_trial_Plan Try.f36 = some f_trial_Plan := by kernel_rfl

/-! 37 fumarole/fumarolelaw04.ints -/
def f_law04_ints_r0 : List Abs.Op := [
  ⟨some 4, none, false, .mv (.c (.bool false))⟩]

def f_law04_ints_r1 : List Abs.Op := [
  ⟨some 6, none, false, .mv (.t 0)⟩,
  ⟨some 7, none, false, .lenS (.t 6)⟩,
  ⟨some 8, none, false, .mv (.t 1)⟩,
  ⟨some 9, none, false, .lenS (.t 8)⟩,
  ⟨some 10, none, false, .bin .neq (.t 7) (.t 9)⟩]

def f_law04_ints_r2 : List Abs.Op := [
  ⟨some 4, none, false, .mv (.c (.bool false))⟩]

def f_law04_ints_r3 : List Abs.Op := [
  ⟨some 5, none, false, .mv (.c (.int .i64 0))⟩]

def f_law04_ints_r4 : List Abs.Op := [
  ⟨some 11, none, false, .mv (.t 5)⟩,
  ⟨some 12, none, false, .mv (.t 0)⟩,
  ⟨some 13, none, false, .lenS (.t 12)⟩,
  ⟨some 14, none, false, .bin .lss (.t 11) (.t 13)⟩]

def f_law04_ints_r5 : List Abs.Op := [
  ⟨some 17, none, true, .mv (.t 0)⟩,
  ⟨some 18, none, true, .mv (.t 5)⟩,
  ⟨some 19, none, true, .idxS 1 (.t 17) (.t 18)⟩,
  ⟨some 20, none, true, .ld false 1 (.t 19)⟩,
  ⟨some 21, none, true, .mv (.t 1)⟩,
  ⟨some 22, none, true, .mv (.t 5)⟩,
  ⟨some 23, none, true, .idxS 1 (.t 21) (.t 22)⟩,
  ⟨some 24, none, true, .ld false 1 (.t 23)⟩,
  ⟨some 25, none, false, .bin .neq (.t 20) (.t 24)⟩]

def f_law04_ints_r6 : List Abs.Op := [
  ⟨some 4, none, false, .mv (.c (.bool false))⟩]

def f_law04_ints_r7 : List Abs.Op := [
  ⟨some 15, none, false, .mv (.t 5)⟩,
  ⟨some 16, none, false, .bin .add (.t 15) (.c (.int .i64 1))⟩,
  ⟨some 5, none, false, .mv (.t 16)⟩]

def f_law04_ints_l8 : Abs.Cmd :=
  (.seq (.seq (.reg [0, 1, 5, 14] f_law04_ints_r4) (.ite (.t 14) .nop (.exit 0))) (.seq (.blk 1 (.seq (.reg [0, 1, 5, 25] f_law04_ints_r5) (.ite (.t 25) (.seq (.reg [4] f_law04_ints_r6) .ret) .nop))) (.reg [0, 1, 5] f_law04_ints_r7)))

def f_law04_ints_r9 : List Abs.Op := [
  ⟨some 4, none, false, .mv (.c (.bool true))⟩]

def a_law04_ints : Ann := ⟨[(8, [4]), (5, [0, 1, 5]), (7, [4]), (6, [0, 1, 5, 25]), (4, [0, 1, 5, 14]), (3, [0, 1, 5]), (2, [4]), (1, [0, 1, 10]), (0, [0, 1])], [(0, [0, 1, 5])], [], [], [], [], [], [], [], []⟩
def f_law04_ints : Abs.Fn := ⟨2, [.t 4],
  (.seq (.reg [0, 1] f_law04_ints_r0) (.seq (.seq (.reg [0, 1, 10] f_law04_ints_r1) (.ite (.t 10) (.seq (.reg [4] f_law04_ints_r2) .ret) .nop)) (.seq (.seq (.reg [0, 1, 5] f_law04_ints_r3) (.blk 0 (.loop [0, 1, 5] false f_law04_ints_l8))) (.seq (.reg [4] f_law04_ints_r9) .ret))))⟩

theorem e_law04_ints_r0 : type_of% f_law04_ints_r0.eq_1 := by_rfl f_law04_ints_r0.eq_1
theorem e_law04_ints_r1 : type_of% f_law04_ints_r1.eq_1 := by_rfl f_law04_ints_r1.eq_1
theorem e_law04_ints_r2 : type_of% f_law04_ints_r2.eq_1 := by_rfl f_law04_ints_r2.eq_1
theorem e_law04_ints_r3 : type_of% f_law04_ints_r3.eq_1 := by_rfl f_law04_ints_r3.eq_1
theorem e_law04_ints_r4 : type_of% f_law04_ints_r4.eq_1 := by_rfl f_law04_ints_r4.eq_1
theorem e_law04_ints_r5 : type_of% f_law04_ints_r5.eq_1 := by_rfl f_law04_ints_r5.eq_1
theorem e_law04_ints_r6 : type_of% f_law04_ints_r6.eq_1 := by_rfl f_law04_ints_r6.eq_1
theorem e_law04_ints_r7 : type_of% f_law04_ints_r7.eq_1 := by_rfl f_law04_ints_r7.eq_1
theorem e_law04_ints_l8 : type_of% f_law04_ints_l8.eq_1 := by_rfl f_law04_ints_l8.eq_1
theorem e_law04_ints_r9 : type_of% f_law04_ints_r9.eq_1 := by_rfl f_law04_ints_r9.eq_1
theorem e_law04_ints : type_of% f_law04_ints.eq_1 := by_rfl f_law04_ints.eq_1
theorem ok_law04_ints : fnC Try.prog a_law04_ints Try.f37 = some f_law04_ints := by kernel_rfl

/-! 40 fumarole/fumaroleref04.Conflicts -/
def f_ref04_Conflicts_r0 : List Abs.Op := [
  ⟨some 1, none, false, .boxi (.t 0)⟩,
  ⟨some 2, none, false, .mv (.c .nils)⟩]

def f_ref04_Conflicts_r1 : List Abs.Op := [
  ⟨some 3, none, false, .nilb 2⟩]

def f_ref04_Conflicts_r2 : List Abs.Op := [
  ⟨some 6, none, false, .fadr 2 (.t 1)⟩,
  ⟨some 7, none, false, .fadr 0 (.t 6)⟩,
  ⟨some 8, none, false, .ld false 1 (.t 7)⟩,
  ⟨some 4, none, false, .mv (.t 8)⟩]

def f_ref04_Conflicts_r3 : List Abs.Op := [
  ⟨some 9, none, false, .mv (.t 4)⟩,
  ⟨some 10, none, false, .fadr 2 (.t 1)⟩,
  ⟨some 11, none, false, .fadr 1 (.t 10)⟩,
  ⟨some 12, none, false, .ld false 1 (.t 11)⟩,
  ⟨some 13, none, false, .bin .leq (.t 9) (.t 12)⟩]

def f_ref04_Conflicts_r4 : List Abs.Op := [
  ⟨some 16, none, false, .fadr 4 (.t 1)⟩,
  ⟨some 17, none, false, .fadr 0 (.t 16)⟩,
  ⟨some 18, none, false, .ld false 1 (.t 17)⟩,
  ⟨some 5, none, false, .mv (.t 18)⟩]

def f_ref04_Conflicts_r5 : List Abs.Op := [
  ⟨some 19, none, false, .mv (.t 5)⟩,
  ⟨some 20, none, false, .fadr 4 (.t 1)⟩,
  ⟨some 21, none, false, .fadr 1 (.t 20)⟩,
  ⟨some 22, none, false, .ld false 1 (.t 21)⟩,
  ⟨some 23, none, false, .bin .leq (.t 19) (.t 22)⟩]

def f_ref04_Conflicts_r6 : List Abs.Op := [
  ⟨some 26, none, false, .mv (.t 3)⟩,
  ⟨some 27, none, false, .ld true 7 (.t 1)⟩,
  ⟨some 28, none, false, .mv (.t 4)⟩,
  ⟨some 29, none, false, .mv (.t 5)⟩,
  ⟨some 30, none, false, .call false (.c (.fn i_ref04_First [] [])) [(.t 27), (.t 28), (.t 29)]⟩,
  ⟨some 31, none, false, .bsi 1 2 [(.int .i64 0), (.int .i64 0)] [(0, 2, (.t 30))]⟩,
  ⟨some 32, none, false, .app 2 16 (.t 26) (.t 31)⟩,
  ⟨some 3, none, false, .mv (.t 32)⟩]

def f_ref04_Conflicts_r7 : List Abs.Op := [
  ⟨some 24, none, false, .mv (.t 5)⟩,
  ⟨some 25, none, false, .bin .add (.t 24) (.c (.int .i64 1))⟩,
  ⟨some 5, none, false, .mv (.t 25)⟩]

def f_ref04_Conflicts_l8 : Abs.Cmd :=
  (.seq (.seq (.reg [1, 3, 4, 5, 23] f_ref04_Conflicts_r5) (.ite (.t 23) .nop (.exit 2))) (.seq (.blk 3 (.reg [1, 3, 4, 5] f_ref04_Conflicts_r6)) (.reg [1, 3, 4, 5] f_ref04_Conflicts_r7)))

def f_ref04_Conflicts_r9 : List Abs.Op := [
  ⟨some 14, none, false, .mv (.t 4)⟩,
  ⟨some 15, none, false, .bin .add (.t 14) (.c (.int .i64 1))⟩,
  ⟨some 4, none, false, .mv (.t 15)⟩]

def f_ref04_Conflicts_l10 : Abs.Cmd :=
  (.seq (.seq (.reg [1, 3, 4, 13] f_ref04_Conflicts_r3) (.ite (.t 13) .nop (.exit 0))) (.seq (.blk 1 (.seq (.reg [1, 3, 4, 5] f_ref04_Conflicts_r4) (.blk 2 (.loop [1, 3, 4, 5] false f_ref04_Conflicts_l8)))) (.reg [1, 3, 4] f_ref04_Conflicts_r9)))

def f_ref04_Conflicts_r11 : List Abs.Op := [
  ⟨some 33, none, false, .mv (.t 3)⟩,
  ⟨some 2, none, false, .mv (.t 33)⟩]

def a_ref04_Conflicts : Ann := ⟨[(9, [2]), (4, [1, 3, 4]), (7, [1, 3, 4, 5]), (8, [1, 3, 4, 5]), (6, [1, 3, 4, 5, 23]), (5, [1, 3, 4, 5]), (3, [1, 3, 4, 13]), (2, [1, 3, 4]), (1, [1, 3]), (0, [1])], [(2, [1, 3, 4, 5]), (0, [1, 3, 4])], [], [3], [], [], [], [], [], []⟩
def f_ref04_Conflicts : Abs.Fn := ⟨1, [.t 2],
  (.seq (.reg [1] f_ref04_Conflicts_r0) (.seq (.reg [1, 3] f_ref04_Conflicts_r1) (.seq (.seq (.reg [1, 3, 4] f_ref04_Conflicts_r2) (.blk 0 (.loop [1, 3, 4] false f_ref04_Conflicts_l10))) (.seq (.reg [2] f_ref04_Conflicts_r11) .ret))))⟩

theorem e_ref04_Conflicts_r0 : type_of% f_ref04_Conflicts_r0.eq_1 := by_rfl f_ref04_Conflicts_r0.eq_1
theorem e_ref04_Conflicts_r1 : type_of% f_ref04_Conflicts_r1.eq_1 := by_rfl f_ref04_Conflicts_r1.eq_1
theorem e_ref04_Conflicts_r2 : type_of% f_ref04_Conflicts_r2.eq_1 := by_rfl f_ref04_Conflicts_r2.eq_1
theorem e_ref04_Conflicts_r3 : type_of% f_ref04_Conflicts_r3.eq_1 := by_rfl f_ref04_Conflicts_r3.eq_1
theorem e_ref04_Conflicts_r4 : type_of% f_ref04_Conflicts_r4.eq_1 := by_rfl f_ref04_Conflicts_r4.eq_1
theorem e_ref04_Conflicts_r5 : type_of% f_ref04_Conflicts_r5.eq_1 := by_rfl f_ref04_Conflicts_r5.eq_1
theorem e_ref04_Conflicts_r6 : type_of% f_ref04_Conflicts_r6.eq_1 := by_rfl f_ref04_Conflicts_r6.eq_1
theorem e_ref04_Conflicts_r7 : type_of% f_ref04_Conflicts_r7.eq_1 := by_rfl f_ref04_Conflicts_r7.eq_1
theorem e_ref04_Conflicts_l8 : type_of% f_ref04_Conflicts_l8.eq_1 := by_rfl f_ref04_Conflicts_l8.eq_1
theorem e_ref04_Conflicts_r9 : type_of% f_ref04_Conflicts_r9.eq_1 := by_rfl f_ref04_Conflicts_r9.eq_1
theorem e_ref04_Conflicts_l10 : type_of% f_ref04_Conflicts_l10.eq_1 := by_rfl f_ref04_Conflicts_l10.eq_1
theorem e_ref04_Conflicts_r11 : type_of% f_ref04_Conflicts_r11.eq_1 := by_rfl f_ref04_Conflicts_r11.eq_1
theorem e_ref04_Conflicts : type_of% f_ref04_Conflicts.eq_1 := by_rfl f_ref04_Conflicts.eq_1
theorem ok_ref04_Conflicts : fnC Try.prog a_ref04_Conflicts Try.f40 = some f_ref04_Conflicts := by kernel_rfl

/-! 41 fumarole/trial.ProveNone -/
def f_trial_ProveNone_r0 : List Abs.Op := [
  ⟨some 2, none, false, .boxi (.t 0)⟩,
  ⟨some 3, none, false, .boxi (.t 1)⟩,
  ⟨some 4, none, false, .alc [] [(.bool false)]⟩]

def f_trial_ProveNone_r1 : List Abs.Op := [
  ⟨some 10, none, false, .ld true 7 (.t 2)⟩,
  ⟨some 11, none, false, .call false (.c (.fn i_trial_CheckTest [] [])) [(.t 10)]⟩,
  ⟨some 12, none, false, .bin .neq (.t 11) (.c (.int .i64 0))⟩]

def f_trial_ProveNone_r2 : List Abs.Op := [
  ⟨none, none, false, .st [] 1 (.t 4) (.c (.bool false))⟩]

def f_trial_ProveNone_r3 : List Abs.Op := [
  ⟨some 5, none, false, .alc [] [(.int .i64 0)]⟩,
  ⟨none, none, false, .st [] 1 (.t 5) (.c (.int .i64 0))⟩]

def f_trial_ProveNone_r4 : List Abs.Op := [
  ⟨some 13, none, false, .ld true 7 (.t 2)⟩,
  ⟨some 14, none, false, .call true (.c (.fn i_trial_Test_rooms [] [])) [(.t 13)]⟩]

def f_trial_ProveNone_r5 : List Abs.Op := [
  ⟨some 7, none, false, .mv (.t 16)⟩]

def f_trial_ProveNone_r6 : List Abs.Op := [
  ⟨some 17, none, false, .ld false 1 (.t 5)⟩,
  ⟨some 18, none, false, .ld false 1 (.t 3)⟩,
  ⟨some 19, none, false, .lenS (.t 18)⟩,
  ⟨some 20, none, false, .bin .eql (.t 17) (.t 19)⟩]

def f_trial_ProveNone_r7 : List Abs.Op := [
  ⟨none, none, false, .st [] 1 (.t 4) (.c (.bool false))⟩]

def f_trial_ProveNone_r8 : List Abs.Op := [
  ⟨some 21, none, true, .ld false 1 (.t 3)⟩,
  ⟨some 22, none, true, .ld false 1 (.t 5)⟩,
  ⟨some 23, none, true, .idxS 2 (.t 21) (.t 22)⟩,
  ⟨some 24, none, true, .idxA 2 1 (.t 23) (.c (.int .i64 0))⟩,
  ⟨some 25, none, true, .ld false 1 (.t 24)⟩,
  ⟨some 26, none, true, .ld false 1 (.t 3)⟩,
  ⟨some 27, none, true, .ld false 1 (.t 5)⟩,
  ⟨some 28, none, true, .idxS 2 (.t 26) (.t 27)⟩,
  ⟨some 29, none, true, .idxA 2 1 (.t 28) (.c (.int .i64 1))⟩,
  ⟨some 30, none, true, .ld false 1 (.t 29)⟩,
  ⟨some 8, none, true, .mv (.t 25)⟩,
  ⟨some 9, none, false, .mv (.t 30)⟩]

def f_trial_ProveNone_r9 : List Abs.Op := [
  ⟨some 31, none, true, .mv (.t 8)⟩,
  ⟨some 32, none, true, .mv (.t 7)⟩,
  ⟨some 33, none, true, .lenS (.t 32)⟩,
  ⟨some 34, none, true, .bin .sub (.t 33) (.c (.int .i64 2))⟩,
  ⟨some 35, none, true, .call false (.c (.fn i_trial_within [] [])) [(.t 31), (.c (.int .i64 (-1))), (.t 34)]⟩,
  ⟨some 36, none, true, .un .not (.t 35)⟩,
  ⟨some 37, none, true, .mv (.t 36)⟩,
  ⟨some 38, some (37, false), true, .mv (.t 9)⟩,
  ⟨some 39, some (37, false), true, .mv (.t 7)⟩,
  ⟨some 40, some (37, false), true, .lenS (.t 39)⟩,
  ⟨some 41, some (37, false), true, .bin .sub (.t 40) (.c (.int .i64 2))⟩,
  ⟨some 42, some (37, false), true, .call false (.c (.fn i_trial_within [] [])) [(.t 38), (.c (.int .i64 (-1))), (.t 41)]⟩,
  ⟨some 43, some (37, false), true, .un .not (.t 42)⟩,
  ⟨some 44, none, true, .pick (.t 37) (.c (.bool true)) (.t 43)⟩,
  ⟨some 45, none, true, .mv (.t 44)⟩,
  ⟨some 46, some (45, false), true, .mv (.t 7)⟩,
  ⟨some 47, some (45, false), true, .mv (.t 8)⟩,
  ⟨some 48, some (45, false), true, .bin .add (.t 47) (.c (.int .i64 1))⟩,
  ⟨some 49, some (45, false), true, .idxS 2 (.t 46) (.t 48)⟩,
  ⟨some 50, some (45, false), true, .fadr 0 (.t 49)⟩,
  ⟨some 51, some (45, false), true, .ld false 1 (.t 50)⟩,
  ⟨some 52, some (45, false), true, .mv (.t 7)⟩,
  ⟨some 53, some (45, false), true, .mv (.t 9)⟩,
  ⟨some 54, some (45, false), true, .bin .add (.t 53) (.c (.int .i64 1))⟩,
  ⟨some 55, some (45, false), true, .idxS 2 (.t 52) (.t 54)⟩,
  ⟨some 56, some (45, false), true, .fadr 1 (.t 55)⟩,
  ⟨some 57, some (45, false), true, .ld false 1 (.t 56)⟩,
  ⟨some 58, some (45, false), false, .bin .leq (.t 51) (.t 57)⟩,
  ⟨some 59, none, false, .pick (.t 45) (.c (.bool true)) (.t 58)⟩]

def f_trial_ProveNone_r10 : List Abs.Op := [
  ⟨none, none, false, .st [] 1 (.t 4) (.c (.bool false))⟩]

def f_trial_ProveNone_r11 : List Abs.Op := [
  ⟨some 60, none, false, .ld false 1 (.t 5)⟩,
  ⟨some 61, none, false, .bin .add (.t 60) (.c (.int .i64 1))⟩,
  ⟨none, none, false, .st [] 1 (.t 5) (.t 61)⟩]

def f_trial_ProveNone_a12 : Abs.Cmd :=
  (.reg [3, 4, 5, 7] f_trial_ProveNone_r5)

def f_trial_ProveNone_b12 : Abs.Cmd :=
  (.blk 1 (.seq (.seq (.reg [3, 4, 5, 7, 20] f_trial_ProveNone_r6) (.ite (.t 20) (.seq (.reg [] f_trial_ProveNone_r7) .ret) .nop)) (.seq (.reg [4, 5, 7, 8, 9] f_trial_ProveNone_r8) (.seq (.seq (.reg [4, 5, 59] f_trial_ProveNone_r9) (.ite (.t 59) (.seq (.reg [] f_trial_ProveNone_r10) .ret) .nop)) (.reg [] f_trial_ProveNone_r11)))))

def f_trial_ProveNone_r13 : List Abs.Op := [
  ⟨some 62, none, false, .ld false 1 (.t 5)⟩,
  ⟨some 63, none, false, .ld false 1 (.t 3)⟩,
  ⟨some 64, none, false, .lenS (.t 63)⟩,
  ⟨some 65, none, false, .bin .eql (.t 62) (.t 64)⟩,
  ⟨none, none, false, .st [] 1 (.t 4) (.t 65)⟩]

def a_trial_ProveNone : Ann := ⟨[(12, [4]), (11, []), (10, []), (9, [4, 5, 59]), (8, [4, 5, 7, 8, 9]), (7, []), (6, [3, 4, 5, 7, 20]), (5, [3, 4, 5, 7]), (4, [3, 4, 5, 14]), (3, [2, 3, 4, 5]), (2, [4]), (1, [2, 3, 4, 12]), (0, [2, 3, 4])], [(0, [3, 4, 5])], [], [4, 5], [], [], [4001], [], [], []⟩
def f_trial_ProveNone : Abs.Fn := ⟨2, [.c 4 false 1],
  (.seq (.reg [2, 3, 4] f_trial_ProveNone_r0) (.seq (.seq (.reg [2, 3, 4, 12] f_trial_ProveNone_r1) (.ite (.t 12) (.seq (.reg [4] f_trial_ProveNone_r2) .ret) .nop)) (.seq (.reg [2, 3, 4, 5] f_trial_ProveNone_r3) (.seq (.seq (.reg [3, 4, 5, 14] f_trial_ProveNone_r4) (.blk 0 (.rngf [3, 4, 5] (.t 14) [15, 16] f_trial_ProveNone_a12 f_trial_ProveNone_b12))) (.seq (.reg [4] f_trial_ProveNone_r13) .ret)))))⟩

theorem e_trial_ProveNone_r0 : type_of% f_trial_ProveNone_r0.eq_1 := by_rfl f_trial_ProveNone_r0.eq_1
theorem e_trial_ProveNone_r1 : type_of% f_trial_ProveNone_r1.eq_1 := by_rfl f_trial_ProveNone_r1.eq_1
theorem e_trial_ProveNone_r2 : type_of% f_trial_ProveNone_r2.eq_1 := by_rfl f_trial_ProveNone_r2.eq_1
theorem e_trial_ProveNone_r3 : type_of% f_trial_ProveNone_r3.eq_1 := by_rfl f_trial_ProveNone_r3.eq_1
theorem e_trial_ProveNone_r4 : type_of% f_trial_ProveNone_r4.eq_1 := by_rfl f_trial_ProveNone_r4.eq_1
theorem e_trial_ProveNone_r5 : type_of% f_trial_ProveNone_r5.eq_1 := by_rfl f_trial_ProveNone_r5.eq_1
theorem e_trial_ProveNone_r6 : type_of% f_trial_ProveNone_r6.eq_1 := by_rfl f_trial_ProveNone_r6.eq_1
theorem e_trial_ProveNone_r7 : type_of% f_trial_ProveNone_r7.eq_1 := by_rfl f_trial_ProveNone_r7.eq_1
theorem e_trial_ProveNone_r8 : type_of% f_trial_ProveNone_r8.eq_1 := by_rfl f_trial_ProveNone_r8.eq_1
theorem e_trial_ProveNone_r9 : type_of% f_trial_ProveNone_r9.eq_1 := by_rfl f_trial_ProveNone_r9.eq_1
theorem e_trial_ProveNone_r10 : type_of% f_trial_ProveNone_r10.eq_1 := by_rfl f_trial_ProveNone_r10.eq_1
theorem e_trial_ProveNone_r11 : type_of% f_trial_ProveNone_r11.eq_1 := by_rfl f_trial_ProveNone_r11.eq_1
theorem e_trial_ProveNone_a12 : type_of% f_trial_ProveNone_a12.eq_1 := by_rfl f_trial_ProveNone_a12.eq_1
theorem e_trial_ProveNone_b12 : type_of% f_trial_ProveNone_b12.eq_1 := by_rfl f_trial_ProveNone_b12.eq_1
theorem e_trial_ProveNone_r13 : type_of% f_trial_ProveNone_r13.eq_1 := by_rfl f_trial_ProveNone_r13.eq_1
theorem e_trial_ProveNone : type_of% f_trial_ProveNone.eq_1 := by_rfl f_trial_ProveNone.eq_1
theorem ok_trial_ProveNone : fnC Try.prog a_trial_ProveNone Try.f41 = some f_trial_ProveNone := by kernel_rfl

/-! 42 fumarole/fumaroleref04.Shows -/
def f_ref04_Shows_r0 : List Abs.Op := [
  ⟨some 2, none, false, .boxi (.t 0)⟩,
  ⟨some 4, none, false, .mv (.c (.bool false))⟩]

def f_ref04_Shows_r1 : List Abs.Op := [
  ⟨some 5, none, false, .mv (.c (.int .i64 0))⟩]

def f_ref04_Shows_r2 : List Abs.Op := [
  ⟨some 8, none, false, .fadr 2 (.t 2)⟩,
  ⟨some 9, none, false, .fadr 0 (.t 8)⟩,
  ⟨some 10, none, false, .ld false 1 (.t 9)⟩,
  ⟨some 6, none, false, .mv (.t 10)⟩]

def f_ref04_Shows_r3 : List Abs.Op := [
  ⟨some 11, none, false, .mv (.t 6)⟩,
  ⟨some 12, none, false, .fadr 2 (.t 2)⟩,
  ⟨some 13, none, false, .fadr 1 (.t 12)⟩,
  ⟨some 14, none, false, .ld false 1 (.t 13)⟩,
  ⟨some 15, none, false, .bin .leq (.t 11) (.t 14)⟩]

def f_ref04_Shows_r4 : List Abs.Op := [
  ⟨some 18, none, false, .fadr 4 (.t 2)⟩,
  ⟨some 19, none, false, .fadr 0 (.t 18)⟩,
  ⟨some 20, none, false, .ld false 1 (.t 19)⟩,
  ⟨some 7, none, false, .mv (.t 20)⟩]

def f_ref04_Shows_r5 : List Abs.Op := [
  ⟨some 21, none, false, .mv (.t 7)⟩,
  ⟨some 22, none, false, .fadr 4 (.t 2)⟩,
  ⟨some 23, none, false, .fadr 1 (.t 22)⟩,
  ⟨some 24, none, false, .ld false 1 (.t 23)⟩,
  ⟨some 25, none, false, .bin .leq (.t 21) (.t 24)⟩]

def f_ref04_Shows_r6 : List Abs.Op := [
  ⟨some 28, none, true, .mv (.t 5)⟩,
  ⟨some 29, none, true, .mv (.t 1)⟩,
  ⟨some 30, none, true, .lenS (.t 29)⟩,
  ⟨some 31, none, true, .bin .geq (.t 28) (.t 30)⟩,
  ⟨some 32, none, true, .mv (.t 31)⟩,
  ⟨some 33, some (32, false), true, .ld true 7 (.t 2)⟩,
  ⟨some 34, some (32, false), true, .mv (.t 6)⟩,
  ⟨some 35, some (32, false), true, .mv (.t 7)⟩,
  ⟨some 36, some (32, false), true, .mv (.t 1)⟩,
  ⟨some 37, some (32, false), true, .mv (.t 5)⟩,
  ⟨some 38, some (32, false), true, .idxS 2 (.t 36) (.t 37)⟩,
  ⟨some 39, some (32, false), true, .ld true 2 (.t 38)⟩,
  ⟨some 40, some (32, false), false, .call false (.c (.fn i_ref04_Conflict [] [])) [(.t 33), (.t 34), (.t 35), (.t 39)]⟩,
  ⟨some 41, some (32, false), false, .un .not (.t 40)⟩,
  ⟨some 42, none, false, .pick (.t 32) (.c (.bool true)) (.t 41)⟩]

def f_ref04_Shows_r7 : List Abs.Op := [
  ⟨some 4, none, false, .mv (.c (.bool false))⟩]

def f_ref04_Shows_r8 : List Abs.Op := [
  ⟨some 43, none, false, .mv (.t 5)⟩,
  ⟨some 44, none, false, .bin .add (.t 43) (.c (.int .i64 1))⟩,
  ⟨some 5, none, false, .mv (.t 44)⟩]

def f_ref04_Shows_r9 : List Abs.Op := [
  ⟨some 26, none, false, .mv (.t 7)⟩,
  ⟨some 27, none, false, .bin .add (.t 26) (.c (.int .i64 1))⟩,
  ⟨some 7, none, false, .mv (.t 27)⟩]

def f_ref04_Shows_l10 : Abs.Cmd :=
  (.seq (.seq (.reg [1, 2, 5, 6, 7, 25] f_ref04_Shows_r5) (.ite (.t 25) .nop (.exit 2))) (.seq (.blk 3 (.seq (.seq (.reg [1, 2, 5, 6, 7, 42] f_ref04_Shows_r6) (.ite (.t 42) (.seq (.reg [4] f_ref04_Shows_r7) .ret) .nop)) (.reg [1, 2, 5, 6, 7] f_ref04_Shows_r8))) (.reg [1, 2, 5, 6, 7] f_ref04_Shows_r9)))

def f_ref04_Shows_r11 : List Abs.Op := [
  ⟨some 16, none, false, .mv (.t 6)⟩,
  ⟨some 17, none, false, .bin .add (.t 16) (.c (.int .i64 1))⟩,
  ⟨some 6, none, false, .mv (.t 17)⟩]

def f_ref04_Shows_l12 : Abs.Cmd :=
  (.seq (.seq (.reg [1, 2, 5, 6, 15] f_ref04_Shows_r3) (.ite (.t 15) .nop (.exit 0))) (.seq (.blk 1 (.seq (.reg [1, 2, 5, 6, 7] f_ref04_Shows_r4) (.blk 2 (.loop [1, 2, 5, 6, 7] false f_ref04_Shows_l10)))) (.reg [1, 2, 5, 6] f_ref04_Shows_r11)))

def f_ref04_Shows_r13 : List Abs.Op := [
  ⟨some 45, none, false, .mv (.t 5)⟩,
  ⟨some 46, none, false, .mv (.t 1)⟩,
  ⟨some 47, none, false, .lenS (.t 46)⟩,
  ⟨some 48, none, false, .bin .eql (.t 45) (.t 47)⟩,
  ⟨some 4, none, false, .mv (.t 48)⟩]

def a_ref04_Shows : Ann := ⟨[(11, [4]), (4, [1, 2, 5, 6]), (7, [1, 2, 5, 6, 7]), (10, [1, 2, 5, 6, 7]), (9, [4]), (8, [1, 2, 5, 6, 7, 42]), (6, [1, 2, 5, 6, 7, 25]), (5, [1, 2, 5, 6, 7]), (3, [1, 2, 5, 6, 15]), (2, [1, 2, 5, 6]), (1, [1, 2, 5]), (0, [1, 2])], [(2, [1, 2, 5, 6, 7]), (0, [1, 2, 5, 6])], [], [], [], [], [], [], [], []⟩
def f_ref04_Shows : Abs.Fn := ⟨2, [.t 4],
  (.seq (.reg [1, 2] f_ref04_Shows_r0) (.seq (.reg [1, 2, 5] f_ref04_Shows_r1) (.seq (.seq (.reg [1, 2, 5, 6] f_ref04_Shows_r2) (.blk 0 (.loop [1, 2, 5, 6] false f_ref04_Shows_l12))) (.seq (.reg [4] f_ref04_Shows_r13) .ret))))⟩

theorem e_ref04_Shows_r0 : type_of% f_ref04_Shows_r0.eq_1 := by_rfl f_ref04_Shows_r0.eq_1
theorem e_ref04_Shows_r1 : type_of% f_ref04_Shows_r1.eq_1 := by_rfl f_ref04_Shows_r1.eq_1
theorem e_ref04_Shows_r2 : type_of% f_ref04_Shows_r2.eq_1 := by_rfl f_ref04_Shows_r2.eq_1
theorem e_ref04_Shows_r3 : type_of% f_ref04_Shows_r3.eq_1 := by_rfl f_ref04_Shows_r3.eq_1
theorem e_ref04_Shows_r4 : type_of% f_ref04_Shows_r4.eq_1 := by_rfl f_ref04_Shows_r4.eq_1
theorem e_ref04_Shows_r5 : type_of% f_ref04_Shows_r5.eq_1 := by_rfl f_ref04_Shows_r5.eq_1
theorem e_ref04_Shows_r6 : type_of% f_ref04_Shows_r6.eq_1 := by_rfl f_ref04_Shows_r6.eq_1
theorem e_ref04_Shows_r7 : type_of% f_ref04_Shows_r7.eq_1 := by_rfl f_ref04_Shows_r7.eq_1
theorem e_ref04_Shows_r8 : type_of% f_ref04_Shows_r8.eq_1 := by_rfl f_ref04_Shows_r8.eq_1
theorem e_ref04_Shows_r9 : type_of% f_ref04_Shows_r9.eq_1 := by_rfl f_ref04_Shows_r9.eq_1
theorem e_ref04_Shows_l10 : type_of% f_ref04_Shows_l10.eq_1 := by_rfl f_ref04_Shows_l10.eq_1
theorem e_ref04_Shows_r11 : type_of% f_ref04_Shows_r11.eq_1 := by_rfl f_ref04_Shows_r11.eq_1
theorem e_ref04_Shows_l12 : type_of% f_ref04_Shows_l12.eq_1 := by_rfl f_ref04_Shows_l12.eq_1
theorem e_ref04_Shows_r13 : type_of% f_ref04_Shows_r13.eq_1 := by_rfl f_ref04_Shows_r13.eq_1
theorem e_ref04_Shows : type_of% f_ref04_Shows.eq_1 := by_rfl f_ref04_Shows.eq_1
theorem ok_ref04_Shows : fnC Try.prog a_ref04_Shows Try.f42 = some f_ref04_Shows := by kernel_rfl

/-! 43 fumarole/trial.Widest -/
def f_trial_Widest_r0 : List Abs.Op := [
  ⟨some 2, none, false, .boxi (.t 0)⟩,
  ⟨some 4, none, false, .mv (.c (.int .i64 0))⟩,
  ⟨some 5, none, false, .mv (.c (.int .i64 0))⟩]

def f_trial_Widest_r1 : List Abs.Op := [
  ⟨some 15, none, false, .ld true 7 (.t 2)⟩,
  ⟨some 16, none, false, .call false (.c (.fn i_trial_CheckTest [] [])) [(.t 15)]⟩,
  ⟨some 6, none, false, .mv (.t 16)⟩]

def f_trial_Widest_r2 : List Abs.Op := [
  ⟨some 17, none, false, .mv (.t 6)⟩,
  ⟨some 18, none, false, .bin .neq (.t 17) (.c (.int .i64 0))⟩]

def f_trial_Widest_r3 : List Abs.Op := [
  ⟨some 19, none, false, .mv (.t 6)⟩,
  ⟨some 4, none, false, .mv (.c (.int .i64 0))⟩,
  ⟨some 5, none, false, .mv (.t 19)⟩]

def f_trial_Widest_r4 : List Abs.Op := [
  ⟨some 20, none, false, .mv (.t 1)⟩,
  ⟨some 21, none, false, .lenS (.t 20)⟩,
  ⟨some 22, none, false, .call false (.c (.fn i_trial_within [] [])) [(.t 21), (.c (.int .i64 1)), (.c (.int .i64 12))]⟩,
  ⟨some 23, none, false, .un .not (.t 22)⟩]

def f_trial_Widest_r5 : List Abs.Op := [
  ⟨some 4, none, false, .mv (.c (.int .i64 0))⟩,
  ⟨some 5, none, false, .mv (.c (.int .i64 2))⟩]

def f_trial_Widest_r6 : List Abs.Op := [
  ⟨some 24, none, false, .mv (.t 1)⟩,
  ⟨some 25, none, false, .lenS (.t 24)⟩,
  ⟨some 26, none, false, .mv (.c (.int .i64 0))⟩]

def f_trial_Widest_r7 : List Abs.Op := [
  ⟨some 27, none, false, .bin .lss (.t 26) (.t 25)⟩]

def f_trial_Widest_r8 : List Abs.Op := [
  ⟨some 28, none, false, .idxS 1 (.t 24) (.t 26)⟩,
  ⟨some 29, none, false, .ld false 1 (.t 28)⟩,
  ⟨some 8, none, false, .mv (.t 29)⟩]

def f_trial_Widest_r9 : List Abs.Op := [
  ⟨some 30, none, false, .mv (.t 8)⟩,
  ⟨some 31, none, false, .call false (.c (.fn i_trial_within [] [])) [(.t 30), (.c (.int .i64 0)), (.c (.int .i64 1000))]⟩,
  ⟨some 32, none, false, .un .not (.t 31)⟩]

def f_trial_Widest_r10 : List Abs.Op := [
  ⟨some 4, none, false, .mv (.c (.int .i64 0))⟩,
  ⟨some 5, none, false, .mv (.c (.int .i64 2))⟩]

def f_trial_Widest_r11 : List Abs.Op := [
  ⟨some 33, none, false, .bin .add (.t 26) (.c (.int .i64 1))⟩,
  ⟨some 26, none, false, .mv (.t 33)⟩]

def f_trial_Widest_l12 : Abs.Cmd :=
  (.seq (.reg [1, 2, 24, 25, 26, 27] f_trial_Widest_r7) (.seq (.ite (.t 27) .nop (.exit 0)) (.seq (.blk 1 (.seq (.reg [1, 2, 8, 24, 25, 26] f_trial_Widest_r8) (.seq (.reg [1, 2, 24, 25, 26, 32] f_trial_Widest_r9) (.ite (.t 32) (.seq (.reg [4, 5] f_trial_Widest_r10) .ret) .nop)))) (.reg [1, 2, 24, 25, 26] f_trial_Widest_r11))))

def f_trial_Widest_r13 : List Abs.Op := [
  ⟨some 34, none, false, .ld true 7 (.t 2)⟩,
  ⟨some 35, none, false, .call false (.c (.fn i_trial_Test_none [] [])) [(.t 34)]⟩]

def f_trial_Widest_r14 : List Abs.Op := [
  ⟨some 4, none, false, .mv (.c (.int .i64 0))⟩,
  ⟨some 5, none, false, .mv (.c (.int .i64 7))⟩]

def f_trial_Widest_r15 : List Abs.Op := [
  ⟨some 9, none, false, .mv (.c (.int .i64 0))⟩,
  ⟨some 10, none, false, .mv (.c (.int .i64 (-1)))⟩]

def f_trial_Widest_r16 : List Abs.Op := [
  ⟨some 36, none, false, .mv (.t 1)⟩,
  ⟨some 37, none, false, .lenS (.t 36)⟩,
  ⟨some 38, none, false, .mv (.c (.int .i64 0))⟩]

def f_trial_Widest_r17 : List Abs.Op := [
  ⟨some 39, none, false, .bin .lss (.t 38) (.t 37)⟩]

def f_trial_Widest_r18 : List Abs.Op := [
  ⟨some 40, none, false, .mv (.t 38)⟩,
  ⟨some 41, none, false, .idxS 1 (.t 36) (.t 38)⟩,
  ⟨some 42, none, false, .ld false 1 (.t 41)⟩,
  ⟨some 11, none, false, .mv (.t 40)⟩,
  ⟨some 12, none, false, .mv (.t 42)⟩]

def f_trial_Widest_r19 : List Abs.Op := [
  ⟨some 44, none, false, .ld true 7 (.t 2)⟩,
  ⟨some 45, none, false, .mv (.t 12)⟩,
  ⟨some 46, none, false, .call false (.c (.fn i_trial_Test_drawdown [] [])) [(.t 44), (.t 45)]⟩,
  ⟨some 43, none, false, .mv (.t 46)⟩,
  ⟨some 47, none, false, .ext (.t 43) 0⟩,
  ⟨some 48, none, false, .ext (.t 43) 1⟩,
  ⟨some 13, none, false, .alcv [] [(.int .i64 0), (.int .i64 0)]⟩,
  ⟨none, none, false, .stv 13 [] 2 13 (.t 47)⟩,
  ⟨some 14, none, false, .mv (.t 48)⟩]

def f_trial_Widest_r20 : List Abs.Op := [
  ⟨some 49, none, false, .fadr 1 (.t 13)⟩,
  ⟨some 50, none, false, .ldv 13 false 1 49⟩,
  ⟨some 51, none, false, .fadr 0 (.t 13)⟩,
  ⟨some 52, none, false, .ldv 13 false 1 51⟩,
  ⟨some 53, none, false, .bin .sub (.t 50) (.t 52)⟩,
  ⟨some 54, none, false, .mv (.t 10)⟩,
  ⟨some 55, none, false, .bin .gtr (.t 53) (.t 54)⟩]

def f_trial_Widest_r21 : List Abs.Op := [
  ⟨some 56, none, true, .mv (.t 11)⟩,
  ⟨some 57, none, true, .fadr 1 (.t 13)⟩,
  ⟨some 58, none, true, .ldv 13 false 1 57⟩,
  ⟨some 59, none, true, .fadr 0 (.t 13)⟩,
  ⟨some 60, none, true, .ldv 13 false 1 59⟩,
  ⟨some 61, none, true, .bin .sub (.t 58) (.t 60)⟩,
  ⟨some 9, none, true, .mv (.t 56)⟩,
  ⟨some 10, none, false, .mv (.t 61)⟩]

def f_trial_Widest_r22 : List Abs.Op := [
  ⟨some 62, none, false, .bin .add (.t 38) (.c (.int .i64 1))⟩,
  ⟨some 38, none, false, .mv (.t 62)⟩]

def f_trial_Widest_l23 : Abs.Cmd :=
  (.seq (.reg [2, 9, 10, 36, 37, 38, 39] f_trial_Widest_r17) (.seq (.ite (.t 39) .nop (.exit 2)) (.seq (.blk 3 (.seq (.reg [2, 9, 10, 11, 12, 36, 37, 38] f_trial_Widest_r18) (.seq (.reg [2, 9, 10, 11, 13, 36, 37, 38] f_trial_Widest_r19) (.seq (.reg [2, 9, 10, 11, 13, 36, 37, 38, 55] f_trial_Widest_r20) (.ite (.t 55) (.reg [2, 9, 10, 36, 37, 38] f_trial_Widest_r21) .nop))))) (.reg [2, 9, 10, 36, 37, 38] f_trial_Widest_r22))))

def f_trial_Widest_r24 : List Abs.Op := [
  ⟨some 63, none, false, .mv (.t 9)⟩,
  ⟨some 4, none, false, .mv (.t 63)⟩,
  ⟨some 5, none, false, .mv (.c (.int .i64 0))⟩]

def a_trial_Widest : Ann := ⟨[(22, [4, 5]), (21, [2, 9, 10, 36, 37, 38]), (20, [2, 9, 10, 36, 37, 38]), (19, [2, 9, 10, 11, 13, 36, 37, 38, 55]), (18, [2, 9, 10, 11, 13, 36, 37, 38]), (17, [2, 9, 10, 11, 12, 36, 37, 38]), (16, [2, 9, 10, 36, 37, 38, 39]), (15, [2, 9, 10, 36, 37, 38]), (14, [1, 2, 9, 10]), (13, [4, 5]), (12, [1, 2, 35]), (11, [1, 2, 24, 25, 26]), (10, [4, 5]), (9, [1, 2, 24, 25, 26, 32]), (8, [1, 2, 8, 24, 25, 26]), (7, [1, 2, 24, 25, 26, 27]), (6, [1, 2, 24, 25, 26]), (5, [4, 5]), (4, [1, 2, 23]), (3, [4, 5]), (2, [1, 2, 6, 18]), (1, [1, 2, 6]), (0, [1, 2])], [(2, [2, 9, 10, 36, 37, 38]), (0, [1, 2, 24, 25, 26])], [], [13], [13], [], [], [], [], []⟩
def f_trial_Widest : Abs.Fn := ⟨2, [.t 4, .t 5],
  (.seq (.reg [1, 2] f_trial_Widest_r0) (.seq (.seq (.reg [1, 2, 6] f_trial_Widest_r1) (.seq (.reg [1, 2, 6, 18] f_trial_Widest_r2) (.ite (.t 18) (.seq (.reg [4, 5] f_trial_Widest_r3) .ret) .nop))) (.seq (.seq (.reg [1, 2, 23] f_trial_Widest_r4) (.ite (.t 23) (.seq (.reg [4, 5] f_trial_Widest_r5) .ret) .nop)) (.seq (.seq (.reg [1, 2, 24, 25, 26] f_trial_Widest_r6) (.blk 0 (.loop [1, 2, 24, 25, 26] false f_trial_Widest_l12))) (.seq (.seq (.reg [1, 2, 35] f_trial_Widest_r13) (.ite (.t 35) (.seq (.reg [4, 5] f_trial_Widest_r14) .ret) .nop)) (.seq (.reg [1, 2, 9, 10] f_trial_Widest_r15) (.seq (.seq (.reg [2, 9, 10, 36, 37, 38] f_trial_Widest_r16) (.blk 2 (.loop [2, 9, 10, 36, 37, 38] false f_trial_Widest_l23))) (.seq (.reg [4, 5] f_trial_Widest_r24) .ret))))))))⟩

theorem e_trial_Widest_r0 : type_of% f_trial_Widest_r0.eq_1 := by_rfl f_trial_Widest_r0.eq_1
theorem e_trial_Widest_r1 : type_of% f_trial_Widest_r1.eq_1 := by_rfl f_trial_Widest_r1.eq_1
theorem e_trial_Widest_r2 : type_of% f_trial_Widest_r2.eq_1 := by_rfl f_trial_Widest_r2.eq_1
theorem e_trial_Widest_r3 : type_of% f_trial_Widest_r3.eq_1 := by_rfl f_trial_Widest_r3.eq_1
theorem e_trial_Widest_r4 : type_of% f_trial_Widest_r4.eq_1 := by_rfl f_trial_Widest_r4.eq_1
theorem e_trial_Widest_r5 : type_of% f_trial_Widest_r5.eq_1 := by_rfl f_trial_Widest_r5.eq_1
theorem e_trial_Widest_r6 : type_of% f_trial_Widest_r6.eq_1 := by_rfl f_trial_Widest_r6.eq_1
theorem e_trial_Widest_r7 : type_of% f_trial_Widest_r7.eq_1 := by_rfl f_trial_Widest_r7.eq_1
theorem e_trial_Widest_r8 : type_of% f_trial_Widest_r8.eq_1 := by_rfl f_trial_Widest_r8.eq_1
theorem e_trial_Widest_r9 : type_of% f_trial_Widest_r9.eq_1 := by_rfl f_trial_Widest_r9.eq_1
theorem e_trial_Widest_r10 : type_of% f_trial_Widest_r10.eq_1 := by_rfl f_trial_Widest_r10.eq_1
theorem e_trial_Widest_r11 : type_of% f_trial_Widest_r11.eq_1 := by_rfl f_trial_Widest_r11.eq_1
theorem e_trial_Widest_l12 : type_of% f_trial_Widest_l12.eq_1 := by_rfl f_trial_Widest_l12.eq_1
theorem e_trial_Widest_r13 : type_of% f_trial_Widest_r13.eq_1 := by_rfl f_trial_Widest_r13.eq_1
theorem e_trial_Widest_r14 : type_of% f_trial_Widest_r14.eq_1 := by_rfl f_trial_Widest_r14.eq_1
theorem e_trial_Widest_r15 : type_of% f_trial_Widest_r15.eq_1 := by_rfl f_trial_Widest_r15.eq_1
theorem e_trial_Widest_r16 : type_of% f_trial_Widest_r16.eq_1 := by_rfl f_trial_Widest_r16.eq_1
theorem e_trial_Widest_r17 : type_of% f_trial_Widest_r17.eq_1 := by_rfl f_trial_Widest_r17.eq_1
theorem e_trial_Widest_r18 : type_of% f_trial_Widest_r18.eq_1 := by_rfl f_trial_Widest_r18.eq_1
theorem e_trial_Widest_r19 : type_of% f_trial_Widest_r19.eq_1 := by_rfl f_trial_Widest_r19.eq_1
theorem e_trial_Widest_r20 : type_of% f_trial_Widest_r20.eq_1 := by_rfl f_trial_Widest_r20.eq_1
theorem e_trial_Widest_r21 : type_of% f_trial_Widest_r21.eq_1 := by_rfl f_trial_Widest_r21.eq_1
theorem e_trial_Widest_r22 : type_of% f_trial_Widest_r22.eq_1 := by_rfl f_trial_Widest_r22.eq_1
theorem e_trial_Widest_l23 : type_of% f_trial_Widest_l23.eq_1 := by_rfl f_trial_Widest_l23.eq_1
theorem e_trial_Widest_r24 : type_of% f_trial_Widest_r24.eq_1 := by_rfl f_trial_Widest_r24.eq_1
theorem e_trial_Widest : type_of% f_trial_Widest.eq_1 := by_rfl f_trial_Widest.eq_1
theorem ok_trial_Widest : fnC Try.prog a_trial_Widest Try.f43 = some f_trial_Widest := by kernel_rfl

/-! 44 fumarole/fumaroleref04.Drawdown -/
def f_ref04_Drawdown_r0 : List Abs.Op := [
  ⟨some 2, none, false, .boxi (.t 0)⟩,
  ⟨some 4, none, false, .alcv [] [(.int .i64 0), (.int .i64 0)]⟩,
  ⟨some 5, none, false, .mv (.c (.bool false))⟩]

def f_ref04_Drawdown_r1 : List Abs.Op := [
  ⟨some 6, none, false, .alcv [] [(.int .i64 0), (.int .i64 0)]⟩]

def f_ref04_Drawdown_r2 : List Abs.Op := [
  ⟨some 7, none, false, .mv (.c (.bool false))⟩]

def f_ref04_Drawdown_r3 : List Abs.Op := [
  ⟨some 12, none, false, .fadr 2 (.t 2)⟩,
  ⟨some 13, none, false, .fadr 0 (.t 12)⟩,
  ⟨some 14, none, false, .ld false 1 (.t 13)⟩,
  ⟨some 8, none, false, .mv (.t 14)⟩]

def f_ref04_Drawdown_r4 : List Abs.Op := [
  ⟨some 15, none, false, .mv (.t 8)⟩,
  ⟨some 16, none, false, .fadr 2 (.t 2)⟩,
  ⟨some 17, none, false, .fadr 1 (.t 16)⟩,
  ⟨some 18, none, false, .ld false 1 (.t 17)⟩,
  ⟨some 19, none, false, .bin .leq (.t 15) (.t 18)⟩]

def f_ref04_Drawdown_r5 : List Abs.Op := [
  ⟨some 22, none, false, .fadr 4 (.t 2)⟩,
  ⟨some 23, none, false, .fadr 0 (.t 22)⟩,
  ⟨some 24, none, false, .ld false 1 (.t 23)⟩,
  ⟨some 9, none, false, .mv (.t 24)⟩]

def f_ref04_Drawdown_r6 : List Abs.Op := [
  ⟨some 25, none, false, .mv (.t 9)⟩,
  ⟨some 26, none, false, .fadr 4 (.t 2)⟩,
  ⟨some 27, none, false, .fadr 1 (.t 26)⟩,
  ⟨some 28, none, false, .ld false 1 (.t 27)⟩,
  ⟨some 29, none, false, .bin .leq (.t 25) (.t 28)⟩]

def f_ref04_Drawdown_r7 : List Abs.Op := [
  ⟨some 32, none, false, .ld true 7 (.t 2)⟩,
  ⟨some 33, none, false, .mv (.t 8)⟩,
  ⟨some 34, none, false, .mv (.t 9)⟩,
  ⟨some 35, none, false, .call false (.c (.fn i_ref04_Set [] [])) [(.t 32), (.t 33), (.t 34)]⟩,
  ⟨some 10, none, false, .alcv [] [(.int .i64 0), (.int .i64 0)]⟩,
  ⟨none, none, false, .stv 10 [] 2 10 (.t 35)⟩]

def f_ref04_Drawdown_r8 : List Abs.Op := [
  ⟨some 36, none, false, .fadr 0 (.t 10)⟩,
  ⟨some 37, none, false, .ldv 10 false 1 36⟩,
  ⟨some 38, none, false, .fadr 1 (.t 10)⟩,
  ⟨some 39, none, false, .ldv 10 false 1 38⟩,
  ⟨some 40, none, false, .bin .gtr (.t 37) (.t 39)⟩]

def f_ref04_Drawdown_r9 : List Abs.Op := [
  ⟨some 41, none, true, .fadr 0 (.t 10)⟩,
  ⟨some 42, none, true, .ldv 10 false 1 41⟩,
  ⟨some 43, none, true, .mv (.t 8)⟩,
  ⟨some 44, none, true, .mv (.t 9)⟩,
  ⟨some 45, none, true, .bld [(.int .i64 0), (.int .i64 0), (.int .i64 0)] [(0, 1, (.t 42)), (1, 1, (.t 43)), (2, 1, (.t 44))]⟩,
  ⟨some 46, none, true, .mv (.t 1)⟩,
  ⟨some 47, none, true, .call false (.c (.fn i_ref04_Drop [] [])) [(.t 45), (.t 46)]⟩,
  ⟨some 48, none, true, .fadr 1 (.t 10)⟩,
  ⟨some 49, none, true, .ldv 10 false 1 48⟩,
  ⟨some 50, none, true, .mv (.t 8)⟩,
  ⟨some 51, none, true, .mv (.t 9)⟩,
  ⟨some 52, none, true, .bld [(.int .i64 0), (.int .i64 0), (.int .i64 0)] [(0, 1, (.t 49)), (1, 1, (.t 50)), (2, 1, (.t 51))]⟩,
  ⟨some 53, none, true, .mv (.t 1)⟩,
  ⟨some 54, none, true, .call false (.c (.fn i_ref04_Drop [] [])) [(.t 52), (.t 53)]⟩,
  ⟨some 55, none, true, .bld [(.int .i64 0), (.int .i64 0)] [(0, 1, (.t 47)), (1, 1, (.t 54))]⟩,
  ⟨some 11, none, true, .alcv [] [(.int .i64 0), (.int .i64 0)]⟩,
  ⟨none, none, false, .stv 11 [] 2 11 (.t 55)⟩]

def f_ref04_Drawdown_r10 : List Abs.Op := [
  ⟨some 56, none, false, .mv (.t 7)⟩,
  ⟨some 57, none, false, .un .not (.t 56)⟩]

def f_ref04_Drawdown_r11 : List Abs.Op := [
  ⟨some 58, none, false, .ldv 11 true 2 11⟩,
  ⟨none, none, false, .stv 6 [] 2 6 (.t 58)⟩]

def f_ref04_Drawdown_r12 : List Abs.Op := [
  ⟨some 7, none, false, .mv (.c (.bool true))⟩]

def f_ref04_Drawdown_r13 : List Abs.Op := [
  ⟨some 59, none, false, .ldv 6 true 2 6⟩,
  ⟨some 60, none, false, .ldv 11 true 2 11⟩,
  ⟨some 61, none, false, .call false (.c (.fn i_ref04_Span [] [])) [(.t 59), (.t 60)]⟩,
  ⟨none, none, false, .stv 6 [] 2 6 (.t 61)⟩]

def f_ref04_Drawdown_r14 : List Abs.Op := [
  ⟨some 30, none, false, .mv (.t 9)⟩,
  ⟨some 31, none, false, .bin .add (.t 30) (.c (.int .i64 1))⟩,
  ⟨some 9, none, false, .mv (.t 31)⟩]

def f_ref04_Drawdown_l15 : Abs.Cmd :=
  (.seq (.seq (.reg [1, 2, 4, 6, 7, 8, 9, 29] f_ref04_Drawdown_r6) (.ite (.t 29) .nop (.exit 2))) (.seq (.blk 3 (.seq (.reg [1, 2, 4, 6, 7, 8, 9, 10] f_ref04_Drawdown_r7) (.seq (.seq (.reg [1, 2, 4, 6, 7, 8, 9, 10, 40] f_ref04_Drawdown_r8) (.ite (.t 40) (.exit 3) .nop)) (.seq (.reg [1, 2, 4, 6, 7, 8, 9, 11] f_ref04_Drawdown_r9) (.seq (.seq (.reg [1, 2, 4, 6, 8, 9, 11, 57] f_ref04_Drawdown_r10) (.ite (.t 57) (.reg [1, 2, 4, 6, 8, 9, 11] f_ref04_Drawdown_r11) .nop)) (.seq (.reg [1, 2, 4, 6, 7, 8, 9, 11] f_ref04_Drawdown_r12) (.reg [1, 2, 4, 6, 7, 8, 9] f_ref04_Drawdown_r13))))))) (.reg [1, 2, 4, 6, 7, 8, 9] f_ref04_Drawdown_r14)))

def f_ref04_Drawdown_r16 : List Abs.Op := [
  ⟨some 20, none, false, .mv (.t 8)⟩,
  ⟨some 21, none, false, .bin .add (.t 20) (.c (.int .i64 1))⟩,
  ⟨some 8, none, false, .mv (.t 21)⟩]

def f_ref04_Drawdown_l17 : Abs.Cmd :=
  (.seq (.seq (.reg [1, 2, 4, 6, 7, 8, 19] f_ref04_Drawdown_r4) (.ite (.t 19) .nop (.exit 0))) (.seq (.blk 1 (.seq (.reg [1, 2, 4, 6, 7, 8, 9] f_ref04_Drawdown_r5) (.blk 2 (.loop [1, 2, 4, 6, 7, 8, 9] false f_ref04_Drawdown_l15)))) (.reg [1, 2, 4, 6, 7, 8] f_ref04_Drawdown_r16)))

def f_ref04_Drawdown_r18 : List Abs.Op := [
  ⟨some 62, none, false, .ldv 6 true 2 6⟩,
  ⟨some 63, none, false, .mv (.t 7)⟩,
  ⟨none, none, false, .stv 4 [] 2 4 (.t 62)⟩,
  ⟨some 5, none, false, .mv (.t 63)⟩]

def a_ref04_Drawdown : Ann := ⟨[(16, [4, 5]), (5, [1, 2, 4, 6, 7, 8]), (8, [1, 2, 4, 6, 7, 8, 9]), (15, [1, 2, 4, 6, 7, 8, 9]), (14, [1, 2, 4, 6, 7, 8, 9, 11]), (13, [1, 2, 4, 6, 8, 9, 11]), (12, [1, 2, 4, 6, 8, 9, 11, 57]), (11, [1, 2, 4, 6, 7, 8, 9, 11]), (10, [1, 2, 4, 6, 7, 8, 9, 10, 40]), (9, [1, 2, 4, 6, 7, 8, 9, 10]), (7, [1, 2, 4, 6, 7, 8, 9, 29]), (6, [1, 2, 4, 6, 7, 8, 9]), (4, [1, 2, 4, 6, 7, 8, 19]), (3, [1, 2, 4, 6, 7, 8]), (2, [1, 2, 4, 6, 7]), (1, [1, 2, 4, 6]), (0, [1, 2, 4])], [(2, [1, 2, 4, 6, 7, 8, 9]), (0, [1, 2, 4, 6, 7, 8])], [], [4, 6, 10, 11], [4, 6, 10, 11], [], [], [], [], []⟩
def f_ref04_Drawdown : Abs.Fn := ⟨2, [.v 4 true 2, .t 5],
  (.seq (.reg [1, 2, 4] f_ref04_Drawdown_r0) (.seq (.reg [1, 2, 4, 6] f_ref04_Drawdown_r1) (.seq (.reg [1, 2, 4, 6, 7] f_ref04_Drawdown_r2) (.seq (.seq (.reg [1, 2, 4, 6, 7, 8] f_ref04_Drawdown_r3) (.blk 0 (.loop [1, 2, 4, 6, 7, 8] false f_ref04_Drawdown_l17))) (.seq (.reg [4, 5] f_ref04_Drawdown_r18) .ret)))))⟩

theorem e_ref04_Drawdown_r0 : type_of% f_ref04_Drawdown_r0.eq_1 := by_rfl f_ref04_Drawdown_r0.eq_1
theorem e_ref04_Drawdown_r1 : type_of% f_ref04_Drawdown_r1.eq_1 := by_rfl f_ref04_Drawdown_r1.eq_1
theorem e_ref04_Drawdown_r2 : type_of% f_ref04_Drawdown_r2.eq_1 := by_rfl f_ref04_Drawdown_r2.eq_1
theorem e_ref04_Drawdown_r3 : type_of% f_ref04_Drawdown_r3.eq_1 := by_rfl f_ref04_Drawdown_r3.eq_1
theorem e_ref04_Drawdown_r4 : type_of% f_ref04_Drawdown_r4.eq_1 := by_rfl f_ref04_Drawdown_r4.eq_1
theorem e_ref04_Drawdown_r5 : type_of% f_ref04_Drawdown_r5.eq_1 := by_rfl f_ref04_Drawdown_r5.eq_1
theorem e_ref04_Drawdown_r6 : type_of% f_ref04_Drawdown_r6.eq_1 := by_rfl f_ref04_Drawdown_r6.eq_1
theorem e_ref04_Drawdown_r7 : type_of% f_ref04_Drawdown_r7.eq_1 := by_rfl f_ref04_Drawdown_r7.eq_1
theorem e_ref04_Drawdown_r8 : type_of% f_ref04_Drawdown_r8.eq_1 := by_rfl f_ref04_Drawdown_r8.eq_1
theorem e_ref04_Drawdown_r9 : type_of% f_ref04_Drawdown_r9.eq_1 := by_rfl f_ref04_Drawdown_r9.eq_1
theorem e_ref04_Drawdown_r10 : type_of% f_ref04_Drawdown_r10.eq_1 := by_rfl f_ref04_Drawdown_r10.eq_1
theorem e_ref04_Drawdown_r11 : type_of% f_ref04_Drawdown_r11.eq_1 := by_rfl f_ref04_Drawdown_r11.eq_1
theorem e_ref04_Drawdown_r12 : type_of% f_ref04_Drawdown_r12.eq_1 := by_rfl f_ref04_Drawdown_r12.eq_1
theorem e_ref04_Drawdown_r13 : type_of% f_ref04_Drawdown_r13.eq_1 := by_rfl f_ref04_Drawdown_r13.eq_1
theorem e_ref04_Drawdown_r14 : type_of% f_ref04_Drawdown_r14.eq_1 := by_rfl f_ref04_Drawdown_r14.eq_1
theorem e_ref04_Drawdown_l15 : type_of% f_ref04_Drawdown_l15.eq_1 := by_rfl f_ref04_Drawdown_l15.eq_1
theorem e_ref04_Drawdown_r16 : type_of% f_ref04_Drawdown_r16.eq_1 := by_rfl f_ref04_Drawdown_r16.eq_1
theorem e_ref04_Drawdown_l17 : type_of% f_ref04_Drawdown_l17.eq_1 := by_rfl f_ref04_Drawdown_l17.eq_1
theorem e_ref04_Drawdown_r18 : type_of% f_ref04_Drawdown_r18.eq_1 := by_rfl f_ref04_Drawdown_r18.eq_1
theorem e_ref04_Drawdown : type_of% f_ref04_Drawdown.eq_1 := by_rfl f_ref04_Drawdown.eq_1
theorem ok_ref04_Drawdown : fnC Try.prog a_ref04_Drawdown Try.f44 = some f_ref04_Drawdown := by kernel_rfl

end Go.Proofs.Ytcjjdaifpboaaaa
