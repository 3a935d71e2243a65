/- The code of functions of the program, in the small instruction set; each is what the translation makes of it. -/
import Derived.Test.YticpenoicajakaaGreatIds
set_option linter.unusedVariables false
set_option maxRecDepth 100000
namespace Go.Proofs.YticpenoicajakaaGreat
open Go Go.Abs
/-! 19 fumarole/tremor.Capital -/
def f_tremor_Capital_r0 : List Abs.Op := [
  ⟨some 2, none, false, .boxi (.t 0)⟩,
  ⟨some 4, none, false, .mv (.c .nils)⟩,
  ⟨some 5, none, false, .mv (.c (.int .i64 0))⟩]

def f_tremor_Capital_r1 : List Abs.Op := [
  ⟨some 11, none, false, .ld true 5 (.t 2)⟩,
  ⟨some 12, none, false, .call false (.c (.fn i_tremor_Bet_valid [] [])) [(.t 11)]⟩,
  ⟨some 13, none, false, .un .not (.t 12)⟩,
  ⟨some 10, none, false, .mv (.t 13)⟩]

def f_tremor_Capital_r2 : List Abs.Op := [
  ⟨some 4, none, false, .mv (.c .nils)⟩,
  ⟨some 5, none, false, .mv (.c (.int .i64 1))⟩]

def f_tremor_Capital_r3 : List Abs.Op := [
  ⟨some 15, none, false, .mv (.t 1)⟩,
  ⟨some 16, none, false, .lenS (.t 15)⟩,
  ⟨some 17, none, false, .bin .gtr (.t 16) (.c (.int .i64 2000))⟩,
  ⟨some 14, none, false, .mv (.t 17)⟩]

def f_tremor_Capital_r4 : List Abs.Op := [
  ⟨some 4, none, false, .mv (.c .nils)⟩,
  ⟨some 5, none, false, .mv (.c (.int .i64 3))⟩]

def f_tremor_Capital_r5 : List Abs.Op := [
  ⟨some 6, none, false, .nilb 1⟩]

def f_tremor_Capital_r6 : List Abs.Op := [
  ⟨some 18, none, false, .ld true 5 (.t 2)⟩,
  ⟨some 19, none, false, .call true (.c (.fn i_tremor_Bet_going [] [])) [(.t 18)]⟩,
  ⟨some 7, none, false, .mv (.t 19)⟩]

def f_tremor_Capital_r7 : List Abs.Op := [
  ⟨some 20, none, false, .mv (.t 1)⟩,
  ⟨some 21, none, false, .lenS (.t 20)⟩,
  ⟨some 22, none, false, .mv (.c (.int .i64 0))⟩]

def f_tremor_Capital_r8 : List Abs.Op := [
  ⟨some 23, none, false, .bin .lss (.t 22) (.t 21)⟩]

def f_tremor_Capital_r9 : List Abs.Op := [
  ⟨some 24, none, false, .idxS 1 (.t 20) (.t 22)⟩,
  ⟨some 25, none, false, .ld false 1 (.t 24)⟩,
  ⟨some 9, none, false, .mv (.t 25)⟩]

def f_tremor_Capital_r10 : List Abs.Op := [
  ⟨some 26, none, false, .mv (.t 6)⟩,
  ⟨some 27, none, false, .mv (.t 7)⟩,
  ⟨some 28, none, false, .mv (.t 9)⟩,
  ⟨some 29, none, false, .call false (.t 27) [(.t 28)]⟩,
  ⟨some 30, none, false, .bsi 1 1 [(.int .i64 0)] [(0, 1, (.t 29))]⟩,
  ⟨some 31, none, false, .app 1 8 (.t 26) (.t 30)⟩,
  ⟨some 6, none, false, .mv (.t 31)⟩]

def f_tremor_Capital_r11 : List Abs.Op := [
  ⟨some 32, none, false, .bin .add (.t 22) (.c (.int .i64 1))⟩,
  ⟨some 22, none, false, .mv (.t 32)⟩]

def f_tremor_Capital_l12 : Abs.Cmd :=
  (.seq (.reg [6, 7, 20, 21, 22, 23] f_tremor_Capital_r8) (.seq (.ite (.t 23) .nop (.exit 1)) (.seq (.blk 2 (.seq (.reg [6, 7, 9, 20, 21, 22] f_tremor_Capital_r9) (.reg [6, 7, 20, 21, 22] f_tremor_Capital_r10))) (.reg [6, 7, 20, 21, 22] f_tremor_Capital_r11))))

def f_tremor_Capital_r13 : List Abs.Op := [
  ⟨some 33, none, false, .mv (.t 6)⟩,
  ⟨some 4, none, false, .mv (.t 33)⟩,
  ⟨some 5, none, false, .mv (.c (.int .i64 0))⟩]

def a_tremor_Capital : Ann := ⟨[(12, [4, 5]), (11, [6, 7, 20, 21, 22]), (10, [6, 7, 20, 21, 22]), (9, [6, 7, 9, 20, 21, 22]), (8, [6, 7, 20, 21, 22, 23]), (7, [6, 7, 20, 21, 22]), (6, [1, 6, 7]), (5, [1, 2, 6]), (2, [4, 5]), (4, [4, 5]), (3, [1, 2, 14]), (1, [1, 2, 10]), (0, [1, 2])], [(1, [6, 7, 20, 21, 22])], [], [6], [], [], [6001], [], []⟩
def f_tremor_Capital : Abs.Fn := ⟨2, [.t 4, .t 5],
  (.seq (.reg [1, 2] f_tremor_Capital_r0) (.seq (.blk 0 (.seq (.reg [1, 2, 10] f_tremor_Capital_r1) (.ite (.t 10) (.seq (.reg [4, 5] f_tremor_Capital_r2) .ret) (.seq (.reg [1, 2, 14] f_tremor_Capital_r3) (.ite (.t 14) (.seq (.reg [4, 5] f_tremor_Capital_r4) .ret) .nop))))) (.seq (.reg [1, 2, 6] f_tremor_Capital_r5) (.seq (.reg [1, 6, 7] f_tremor_Capital_r6) (.seq (.seq (.reg [6, 7, 20, 21, 22] f_tremor_Capital_r7) (.blk 1 (.loop [6, 7, 20, 21, 22] false f_tremor_Capital_l12))) (.seq (.reg [4, 5] f_tremor_Capital_r13) .ret))))))⟩

theorem e_tremor_Capital_r0 : type_of% f_tremor_Capital_r0.eq_1 := by_rfl f_tremor_Capital_r0.eq_1
theorem e_tremor_Capital_r1 : type_of% f_tremor_Capital_r1.eq_1 := by_rfl f_tremor_Capital_r1.eq_1
theorem e_tremor_Capital_r2 : type_of% f_tremor_Capital_r2.eq_1 := by_rfl f_tremor_Capital_r2.eq_1
theorem e_tremor_Capital_r3 : type_of% f_tremor_Capital_r3.eq_1 := by_rfl f_tremor_Capital_r3.eq_1
theorem e_tremor_Capital_r4 : type_of% f_tremor_Capital_r4.eq_1 := by_rfl f_tremor_Capital_r4.eq_1
theorem e_tremor_Capital_r5 : type_of% f_tremor_Capital_r5.eq_1 := by_rfl f_tremor_Capital_r5.eq_1
theorem e_tremor_Capital_r6 : type_of% f_tremor_Capital_r6.eq_1 := by_rfl f_tremor_Capital_r6.eq_1
theorem e_tremor_Capital_r7 : type_of% f_tremor_Capital_r7.eq_1 := by_rfl f_tremor_Capital_r7.eq_1
theorem e_tremor_Capital_r8 : type_of% f_tremor_Capital_r8.eq_1 := by_rfl f_tremor_Capital_r8.eq_1
theorem e_tremor_Capital_r9 : type_of% f_tremor_Capital_r9.eq_1 := by_rfl f_tremor_Capital_r9.eq_1
theorem e_tremor_Capital_r10 : type_of% f_tremor_Capital_r10.eq_1 := by_rfl f_tremor_Capital_r10.eq_1
theorem e_tremor_Capital_r11 : type_of% f_tremor_Capital_r11.eq_1 := by_rfl f_tremor_Capital_r11.eq_1
theorem e_tremor_Capital_l12 : type_of% f_tremor_Capital_l12.eq_1 := by_rfl f_tremor_Capital_l12.eq_1
theorem e_tremor_Capital_r13 : type_of% f_tremor_Capital_r13.eq_1 := by_rfl f_tremor_Capital_r13.eq_1
theorem e_tremor_Capital : type_of% f_tremor_Capital.eq_1 := by_rfl f_tremor_Capital.eq_1
theorem ok_tremor_Capital : fnC Tryz.prog a_tremor_Capital Tryz.f19 = some f_tremor_Capital := by kernel_rfl

/-! 20 fumarole/tremor.Inject -/
def f_tremor_Inject_r0 : List Abs.Op := [
  ⟨some 6, none, false, .boxi (.t 2)⟩,
  ⟨some 8, none, false, .mv (.c .nils)⟩,
  ⟨some 9, none, false, .mv (.c (.int .i64 0))⟩]

def f_tremor_Inject_r1 : List Abs.Op := [
  ⟨some 10, none, false, .mv (.c (.fn i_tremor_Inject_1 [] []))⟩]

def f_tremor_Inject_r2 : List Abs.Op := [
  ⟨some 15, none, false, .mv (.t 0)⟩,
  ⟨some 16, none, false, .lenS (.t 15)⟩,
  ⟨some 17, none, false, .bin .gtr (.t 16) (.c (.int .i64 500))⟩,
  ⟨some 14, none, false, .mv (.t 17)⟩]

def f_tremor_Inject_r3 : List Abs.Op := [
  ⟨some 8, none, false, .mv (.c .nils)⟩,
  ⟨some 9, none, false, .mv (.c (.int .i64 3))⟩]

def f_tremor_Inject_r4 : List Abs.Op := [
  ⟨some 19, none, false, .mv (.t 0)⟩,
  ⟨some 20, none, false, .mv (.t 10)⟩,
  ⟨some 21, none, false, .call false (.c (.fn i_tremor_all_int [] [])) [(.t 19), (.t 20)]⟩,
  ⟨some 22, none, false, .un .not (.t 21)⟩,
  ⟨some 23, none, false, .mv (.t 22)⟩,
  ⟨some 24, some (23, false), false, .mv (.t 1)⟩,
  ⟨some 25, some (23, false), false, .lenS (.t 24)⟩,
  ⟨some 26, some (23, false), false, .mv (.t 0)⟩,
  ⟨some 27, some (23, false), false, .lenS (.t 26)⟩,
  ⟨some 28, some (23, false), false, .bin .neq (.t 25) (.t 27)⟩,
  ⟨some 29, none, false, .pick (.t 23) (.c (.bool true)) (.t 28)⟩,
  ⟨some 30, none, false, .mv (.t 29)⟩,
  ⟨some 31, some (30, false), false, .mv (.t 1)⟩,
  ⟨some 32, some (30, false), false, .call false (.c (.fn i_tremor_all_uint8 [] [])) [(.t 31), (.c (.fn i_tremor_Inject_2 [] []))]⟩,
  ⟨some 33, some (30, false), false, .un .not (.t 32)⟩,
  ⟨some 34, none, false, .pick (.t 30) (.c (.bool true)) (.t 33)⟩,
  ⟨some 35, none, false, .mv (.t 34)⟩,
  ⟨some 36, some (35, false), false, .mv (.t 10)⟩,
  ⟨some 37, some (35, false), false, .mv (.t 3)⟩,
  ⟨some 38, some (35, false), false, .call false (.t 36) [(.t 37)]⟩,
  ⟨some 39, some (35, false), false, .un .not (.t 38)⟩,
  ⟨some 40, none, false, .pick (.t 35) (.c (.bool true)) (.t 39)⟩,
  ⟨some 18, none, false, .mv (.t 40)⟩]

def f_tremor_Inject_r5 : List Abs.Op := [
  ⟨some 8, none, false, .mv (.c .nils)⟩,
  ⟨some 9, none, false, .mv (.c (.int .i64 1))⟩]

def f_tremor_Inject_r6 : List Abs.Op := [
  ⟨some 42, none, false, .idxA 3 1 (.t 6) (.c (.int .u8 0))⟩,
  ⟨some 43, none, false, .ld false 1 (.t 42)⟩,
  ⟨some 44, none, false, .bin .gtr (.t 43) (.c (.int .i64 1000))⟩,
  ⟨some 45, none, false, .mv (.t 44)⟩,
  ⟨some 46, some (45, false), false, .idxA 3 1 (.t 6) (.c (.int .u8 1))⟩,
  ⟨some 47, some (45, false), false, .ld false 1 (.t 46)⟩,
  ⟨some 48, some (45, false), false, .idxA 3 1 (.t 6) (.c (.int .u8 0))⟩,
  ⟨some 49, some (45, false), false, .ld false 1 (.t 48)⟩,
  ⟨some 50, some (45, false), false, .bin .gtr (.t 47) (.t 49)⟩,
  ⟨some 51, none, false, .pick (.t 45) (.c (.bool true)) (.t 50)⟩,
  ⟨some 52, none, false, .mv (.t 51)⟩,
  ⟨some 53, some (52, false), false, .idxA 3 1 (.t 6) (.c (.int .u8 2))⟩,
  ⟨some 54, some (52, false), false, .ld false 1 (.t 53)⟩,
  ⟨some 55, some (52, false), false, .idxA 3 1 (.t 6) (.c (.int .u8 1))⟩,
  ⟨some 56, some (52, false), false, .ld false 1 (.t 55)⟩,
  ⟨some 57, some (52, false), false, .bin .gtr (.t 54) (.t 56)⟩,
  ⟨some 58, none, false, .pick (.t 52) (.c (.bool true)) (.t 57)⟩,
  ⟨some 59, none, false, .mv (.t 58)⟩,
  ⟨some 60, some (59, false), false, .idxA 3 1 (.t 6) (.c (.int .u8 2))⟩,
  ⟨some 61, some (59, false), false, .ld false 1 (.t 60)⟩,
  ⟨some 62, some (59, false), false, .bin .lss (.t 61) (.c (.int .i64 0))⟩,
  ⟨some 63, none, false, .pick (.t 59) (.c (.bool true)) (.t 62)⟩,
  ⟨some 41, none, false, .mv (.t 63)⟩]

def f_tremor_Inject_r7 : List Abs.Op := [
  ⟨some 8, none, false, .mv (.c .nils)⟩,
  ⟨some 9, none, false, .mv (.c (.int .i64 1))⟩]

def f_tremor_Inject_r8 : List Abs.Op := [
  ⟨some 64, none, false, .mv (.t 0)⟩,
  ⟨some 65, none, false, .lenS (.t 64)⟩,
  ⟨some 66, none, false, .mks 1 8 [(.int .i64 0)] (.t 65) (.t 65)⟩,
  ⟨some 11, none, false, .mv (.t 66)⟩]

def f_tremor_Inject_r9 : List Abs.Op := [
  ⟨some 67, none, false, .mv (.t 0)⟩,
  ⟨some 68, none, false, .lenS (.t 67)⟩,
  ⟨some 69, none, false, .mv (.c (.int .i64 0))⟩]

def f_tremor_Inject_r10 : List Abs.Op := [
  ⟨some 70, none, false, .bin .lss (.t 69) (.t 68)⟩]

def f_tremor_Inject_r11 : List Abs.Op := [
  ⟨some 71, none, false, .mv (.t 69)⟩,
  ⟨some 72, none, false, .idxS 1 (.t 67) (.t 69)⟩,
  ⟨some 73, none, false, .ld false 1 (.t 72)⟩,
  ⟨some 12, none, false, .mv (.t 71)⟩,
  ⟨some 13, none, false, .mv (.t 73)⟩]

def f_tremor_Inject_r12 : List Abs.Op := [
  ⟨some 74, none, false, .mv (.t 11)⟩,
  ⟨some 75, none, false, .mv (.t 12)⟩,
  ⟨some 76, none, false, .mv (.t 13)⟩,
  ⟨some 77, none, false, .mv (.t 1)⟩,
  ⟨some 78, none, false, .mv (.t 12)⟩,
  ⟨some 79, none, false, .idxS 1 (.t 77) (.t 78)⟩,
  ⟨some 80, none, false, .ld false 1 (.t 79)⟩,
  ⟨some 81, none, false, .idxA 3 1 (.t 6) (.t 80)⟩,
  ⟨some 82, none, false, .ld false 1 (.t 81)⟩,
  ⟨some 83, none, false, .bin .mul (.t 76) (.t 82)⟩,
  ⟨some 84, none, false, .bin .quo (.t 83) (.c (.int .i64 1000))⟩,
  ⟨some 85, none, false, .idxS 1 (.t 74) (.t 75)⟩,
  ⟨none, none, false, .st [] 1 (.t 85) (.t 84)⟩]

def f_tremor_Inject_r13 : List Abs.Op := [
  ⟨some 86, none, false, .mv (.t 12)⟩,
  ⟨some 87, none, false, .bin .gtr (.t 86) (.c (.int .i64 0))⟩]

def f_tremor_Inject_r14 : List Abs.Op := [
  ⟨some 88, none, true, .mv (.t 11)⟩,
  ⟨some 89, none, true, .mv (.t 12)⟩,
  ⟨some 90, none, true, .mv (.t 11)⟩,
  ⟨some 91, none, true, .mv (.t 12)⟩,
  ⟨some 92, none, true, .idxS 1 (.t 90) (.t 91)⟩,
  ⟨some 93, none, true, .ld false 1 (.t 92)⟩,
  ⟨some 94, none, true, .mv (.t 11)⟩,
  ⟨some 95, none, true, .mv (.t 12)⟩,
  ⟨some 96, none, true, .bin .sub (.t 95) (.c (.int .i64 1))⟩,
  ⟨some 97, none, true, .idxS 1 (.t 94) (.t 96)⟩,
  ⟨some 98, none, true, .ld false 1 (.t 97)⟩,
  ⟨some 99, none, true, .mv (.t 3)⟩,
  ⟨some 100, none, true, .bin .add (.t 98) (.t 99)⟩,
  ⟨some 101, none, true, .mn (.t 93) (.t 100)⟩,
  ⟨some 102, none, false, .idxS 1 (.t 88) (.t 89)⟩,
  ⟨none, none, false, .st [] 1 (.t 102) (.t 101)⟩]

def f_tremor_Inject_r15 : List Abs.Op := [
  ⟨some 103, none, false, .bin .add (.t 69) (.c (.int .i64 1))⟩,
  ⟨some 69, none, false, .mv (.t 103)⟩]

def f_tremor_Inject_l16 : Abs.Cmd :=
  (.seq (.reg [1, 3, 6, 11, 67, 68, 69, 70] f_tremor_Inject_r10) (.seq (.ite (.t 70) .nop (.exit 1)) (.seq (.blk 2 (.seq (.reg [1, 3, 6, 11, 12, 13, 67, 68, 69] f_tremor_Inject_r11) (.seq (.reg [1, 3, 6, 11, 12, 67, 68, 69] f_tremor_Inject_r12) (.seq (.reg [1, 3, 6, 11, 12, 67, 68, 69, 87] f_tremor_Inject_r13) (.ite (.t 87) (.reg [1, 3, 6, 11, 67, 68, 69] f_tremor_Inject_r14) .nop))))) (.reg [1, 3, 6, 11, 67, 68, 69] f_tremor_Inject_r15))))

def f_tremor_Inject_r17 : List Abs.Op := [
  ⟨some 104, none, false, .mv (.t 11)⟩,
  ⟨some 8, none, false, .mv (.t 104)⟩,
  ⟨some 9, none, false, .mv (.c (.int .i64 0))⟩]

def a_tremor_Inject : Ann := ⟨[(16, [8, 9]), (15, [1, 3, 6, 11, 67, 68, 69]), (14, [1, 3, 6, 11, 67, 68, 69]), (13, [1, 3, 6, 11, 12, 67, 68, 69, 87]), (12, [1, 3, 6, 11, 12, 67, 68, 69]), (11, [1, 3, 6, 11, 12, 13, 67, 68, 69]), (10, [1, 3, 6, 11, 67, 68, 69, 70]), (9, [1, 3, 6, 11, 67, 68, 69]), (8, [0, 1, 3, 6, 11]), (3, [8, 9]), (5, [8, 9]), (7, [8, 9]), (6, [0, 1, 3, 6, 41]), (4, [0, 1, 3, 6, 18]), (2, [0, 1, 3, 6, 10, 14]), (1, [0, 1, 3, 6, 10]), (0, [0, 1, 3, 6])], [(1, [1, 3, 6, 11, 67, 68, 69])], [], [], [], [], [], [], []⟩
def f_tremor_Inject : Abs.Fn := ⟨4, [.t 8, .t 9],
  (.seq (.reg [0, 1, 3, 6] f_tremor_Inject_r0) (.seq (.reg [0, 1, 3, 6, 10] f_tremor_Inject_r1) (.seq (.blk 0 (.seq (.reg [0, 1, 3, 6, 10, 14] f_tremor_Inject_r2) (.ite (.t 14) (.seq (.reg [8, 9] f_tremor_Inject_r3) .ret) (.seq (.reg [0, 1, 3, 6, 18] f_tremor_Inject_r4) (.ite (.t 18) (.seq (.reg [8, 9] f_tremor_Inject_r5) .ret) (.seq (.reg [0, 1, 3, 6, 41] f_tremor_Inject_r6) (.ite (.t 41) (.seq (.reg [8, 9] f_tremor_Inject_r7) .ret) .nop))))))) (.seq (.reg [0, 1, 3, 6, 11] f_tremor_Inject_r8) (.seq (.seq (.reg [1, 3, 6, 11, 67, 68, 69] f_tremor_Inject_r9) (.blk 1 (.loop [1, 3, 6, 11, 67, 68, 69] false f_tremor_Inject_l16))) (.seq (.reg [8, 9] f_tremor_Inject_r17) .ret))))))⟩

theorem e_tremor_Inject_r0 : type_of% f_tremor_Inject_r0.eq_1 := by_rfl f_tremor_Inject_r0.eq_1
theorem e_tremor_Inject_r1 : type_of% f_tremor_Inject_r1.eq_1 := by_rfl f_tremor_Inject_r1.eq_1
theorem e_tremor_Inject_r2 : type_of% f_tremor_Inject_r2.eq_1 := by_rfl f_tremor_Inject_r2.eq_1
theorem e_tremor_Inject_r3 : type_of% f_tremor_Inject_r3.eq_1 := by_rfl f_tremor_Inject_r3.eq_1
theorem e_tremor_Inject_r4 : type_of% f_tremor_Inject_r4.eq_1 := by_rfl f_tremor_Inject_r4.eq_1
theorem e_tremor_Inject_r5 : type_of% f_tremor_Inject_r5.eq_1 := by_rfl f_tremor_Inject_r5.eq_1
theorem e_tremor_Inject_r6 : type_of% f_tremor_Inject_r6.eq_1 := by_rfl f_tremor_Inject_r6.eq_1
theorem e_tremor_Inject_r7 : type_of% f_tremor_Inject_r7.eq_1 := by_rfl f_tremor_Inject_r7.eq_1
theorem e_tremor_Inject_r8 : type_of% f_tremor_Inject_r8.eq_1 := by_rfl f_tremor_Inject_r8.eq_1
theorem e_tremor_Inject_r9 : type_of% f_tremor_Inject_r9.eq_1 := by_rfl f_tremor_Inject_r9.eq_1
theorem e_tremor_Inject_r10 : type_of% f_tremor_Inject_r10.eq_1 := by_rfl f_tremor_Inject_r10.eq_1
theorem e_tremor_Inject_r11 : type_of% f_tremor_Inject_r11.eq_1 := by_rfl f_tremor_Inject_r11.eq_1
theorem e_tremor_Inject_r12 : type_of% f_tremor_Inject_r12.eq_1 := by_rfl f_tremor_Inject_r12.eq_1
theorem e_tremor_Inject_r13 : type_of% f_tremor_Inject_r13.eq_1 := by_rfl f_tremor_Inject_r13.eq_1
theorem e_tremor_Inject_r14 : type_of% f_tremor_Inject_r14.eq_1 := by_rfl f_tremor_Inject_r14.eq_1
theorem e_tremor_Inject_r15 : type_of% f_tremor_Inject_r15.eq_1 := by_rfl f_tremor_Inject_r15.eq_1
theorem e_tremor_Inject_l16 : type_of% f_tremor_Inject_l16.eq_1 := by_rfl f_tremor_Inject_l16.eq_1
theorem e_tremor_Inject_r17 : type_of% f_tremor_Inject_r17.eq_1 := by_rfl f_tremor_Inject_r17.eq_1
theorem e_tremor_Inject : type_of% f_tremor_Inject.eq_1 := by_rfl f_tremor_Inject.eq_1
theorem ok_tremor_Inject : fnC Tryz.prog a_tremor_Inject Tryz.f20 = some f_tremor_Inject := by kernel_rfl

/-! 21 fumarole/fumarolelaw09.located -/
def f_law09_located_r0 : List Abs.Op := [
  ⟨some 4, none, false, .mv (.c (.bool false))⟩]

def f_law09_located_r1 : List Abs.Op := [
  ⟨some 6, none, false, .mv (.t 0)⟩,
  ⟨some 7, none, false, .lenS (.t 6)⟩,
  ⟨some 8, none, false, .mv (.t 1)⟩,
  ⟨some 9, none, false, .lenS (.t 8)⟩,
  ⟨some 10, none, false, .bin .neq (.t 7) (.t 9)⟩]

def f_law09_located_r2 : List Abs.Op := [
  ⟨some 4, none, false, .mv (.c (.bool false))⟩]

def f_law09_located_r3 : List Abs.Op := [
  ⟨some 5, none, false, .mv (.c (.int .i64 0))⟩]

def f_law09_located_r4 : List Abs.Op := [
  ⟨some 11, none, false, .mv (.t 5)⟩,
  ⟨some 12, none, false, .mv (.t 0)⟩,
  ⟨some 13, none, false, .lenS (.t 12)⟩,
  ⟨some 14, none, false, .bin .lss (.t 11) (.t 13)⟩]

def f_law09_located_r5 : List Abs.Op := [
  ⟨some 17, none, true, .mv (.t 0)⟩,
  ⟨some 18, none, true, .mv (.t 5)⟩,
  ⟨some 19, none, true, .idxS 5 (.t 17) (.t 18)⟩,
  ⟨some 20, none, true, .ld true 5 (.t 19)⟩,
  ⟨some 21, none, true, .mv (.t 1)⟩,
  ⟨some 22, none, true, .mv (.t 5)⟩,
  ⟨some 23, none, true, .idxS 5 (.t 21) (.t 22)⟩,
  ⟨some 24, none, true, .fadr 0 (.t 23)⟩,
  ⟨some 25, none, true, .ld true 3 (.t 24)⟩,
  ⟨some 26, none, true, .call false (.c (.fn i_law09_Point [] [])) [(.t 25)]⟩,
  ⟨some 27, none, true, .mv (.t 1)⟩,
  ⟨some 28, none, true, .mv (.t 5)⟩,
  ⟨some 29, none, true, .idxS 5 (.t 27) (.t 28)⟩,
  ⟨some 30, none, true, .fadr 3 (.t 29)⟩,
  ⟨some 31, none, true, .ld true 2 (.t 30)⟩,
  ⟨some 32, none, true, .call false (.c (.fn i_law09_Range [] [])) [(.t 31)]⟩,
  ⟨some 33, none, true, .bld [(.int .i64 0), (.int .i64 0), (.int .i64 0), (.int .i64 0), (.int .i64 0)] [(0, 3, (.t 26)), (3, 2, (.t 32))]⟩,
  ⟨some 34, none, false, .eqv true [some .i64, some .i64, some .i64, some .i64, some .i64] true (.t 20) (.t 33)⟩]

def f_law09_located_r6 : List Abs.Op := [
  ⟨some 4, none, false, .mv (.c (.bool false))⟩]

def f_law09_located_r7 : List Abs.Op := [
  ⟨some 15, none, false, .mv (.t 5)⟩,
  ⟨some 16, none, false, .bin .add (.t 15) (.c (.int .i64 1))⟩,
  ⟨some 5, none, false, .mv (.t 16)⟩]

def f_law09_located_l8 : Abs.Cmd :=
  (.seq (.seq (.reg [0, 1, 5, 14] f_law09_located_r4) (.ite (.t 14) .nop (.exit 0))) (.seq (.blk 1 (.seq (.reg [0, 1, 5, 34] f_law09_located_r5) (.ite (.t 34) (.seq (.reg [4] f_law09_located_r6) .ret) .nop))) (.reg [0, 1, 5] f_law09_located_r7)))

def f_law09_located_r9 : List Abs.Op := [
  ⟨some 4, none, false, .mv (.c (.bool true))⟩]

def a_law09_located : Ann := ⟨[(8, [4]), (5, [0, 1, 5]), (7, [4]), (6, [0, 1, 5, 34]), (4, [0, 1, 5, 14]), (3, [0, 1, 5]), (2, [4]), (1, [0, 1, 10]), (0, [0, 1])], [(0, [0, 1, 5])], [], [], [], [], [], [], []⟩
def f_law09_located : Abs.Fn := ⟨2, [.t 4],
  (.seq (.reg [0, 1] f_law09_located_r0) (.seq (.seq (.reg [0, 1, 10] f_law09_located_r1) (.ite (.t 10) (.seq (.reg [4] f_law09_located_r2) .ret) .nop)) (.seq (.seq (.reg [0, 1, 5] f_law09_located_r3) (.blk 0 (.loop [0, 1, 5] false f_law09_located_l8))) (.seq (.reg [4] f_law09_located_r9) .ret))))⟩

theorem e_law09_located_r0 : type_of% f_law09_located_r0.eq_1 := by_rfl f_law09_located_r0.eq_1
theorem e_law09_located_r1 : type_of% f_law09_located_r1.eq_1 := by_rfl f_law09_located_r1.eq_1
theorem e_law09_located_r2 : type_of% f_law09_located_r2.eq_1 := by_rfl f_law09_located_r2.eq_1
theorem e_law09_located_r3 : type_of% f_law09_located_r3.eq_1 := by_rfl f_law09_located_r3.eq_1
theorem e_law09_located_r4 : type_of% f_law09_located_r4.eq_1 := by_rfl f_law09_located_r4.eq_1
theorem e_law09_located_r5 : type_of% f_law09_located_r5.eq_1 := by_rfl f_law09_located_r5.eq_1
theorem e_law09_located_r6 : type_of% f_law09_located_r6.eq_1 := by_rfl f_law09_located_r6.eq_1
theorem e_law09_located_r7 : type_of% f_law09_located_r7.eq_1 := by_rfl f_law09_located_r7.eq_1
theorem e_law09_located_l8 : type_of% f_law09_located_l8.eq_1 := by_rfl f_law09_located_l8.eq_1
theorem e_law09_located_r9 : type_of% f_law09_located_r9.eq_1 := by_rfl f_law09_located_r9.eq_1
theorem e_law09_located : type_of% f_law09_located.eq_1 := by_rfl f_law09_located.eq_1
theorem ok_law09_located : fnC Tryz.prog a_law09_located Tryz.f21 = some f_law09_located := by kernel_rfl

/-! 22 fumarole/fumarolelaw09.ints -/
def f_law09_ints_r0 : List Abs.Op := [
  ⟨some 4, none, false, .mv (.c (.bool false))⟩]

def f_law09_ints_r1 : List Abs.Op := [
  ⟨some 6, none, false, .mv (.t 0)⟩,
  ⟨some 7, none, false, .lenS (.t 6)⟩,
  ⟨some 8, none, false, .mv (.t 1)⟩,
  ⟨some 9, none, false, .lenS (.t 8)⟩,
  ⟨some 10, none, false, .bin .neq (.t 7) (.t 9)⟩]

def f_law09_ints_r2 : List Abs.Op := [
  ⟨some 4, none, false, .mv (.c (.bool false))⟩]

def f_law09_ints_r3 : List Abs.Op := [
  ⟨some 5, none, false, .mv (.c (.int .i64 0))⟩]

def f_law09_ints_r4 : List Abs.Op := [
  ⟨some 11, none, false, .mv (.t 5)⟩,
  ⟨some 12, none, false, .mv (.t 0)⟩,
  ⟨some 13, none, false, .lenS (.t 12)⟩,
  ⟨some 14, none, false, .bin .lss (.t 11) (.t 13)⟩]

def f_law09_ints_r5 : List Abs.Op := [
  ⟨some 17, none, true, .mv (.t 0)⟩,
  ⟨some 18, none, true, .mv (.t 5)⟩,
  ⟨some 19, none, true, .idxS 1 (.t 17) (.t 18)⟩,
  ⟨some 20, none, true, .ld false 1 (.t 19)⟩,
  ⟨some 21, none, true, .mv (.t 1)⟩,
  ⟨some 22, none, true, .mv (.t 5)⟩,
  ⟨some 23, none, true, .idxS 1 (.t 21) (.t 22)⟩,
  ⟨some 24, none, true, .ld false 1 (.t 23)⟩,
  ⟨some 25, none, false, .bin .neq (.t 20) (.t 24)⟩]

def f_law09_ints_r6 : List Abs.Op := [
  ⟨some 4, none, false, .mv (.c (.bool false))⟩]

def f_law09_ints_r7 : List Abs.Op := [
  ⟨some 15, none, false, .mv (.t 5)⟩,
  ⟨some 16, none, false, .bin .add (.t 15) (.c (.int .i64 1))⟩,
  ⟨some 5, none, false, .mv (.t 16)⟩]

def f_law09_ints_l8 : Abs.Cmd :=
  (.seq (.seq (.reg [0, 1, 5, 14] f_law09_ints_r4) (.ite (.t 14) .nop (.exit 0))) (.seq (.blk 1 (.seq (.reg [0, 1, 5, 25] f_law09_ints_r5) (.ite (.t 25) (.seq (.reg [4] f_law09_ints_r6) .ret) .nop))) (.reg [0, 1, 5] f_law09_ints_r7)))

def f_law09_ints_r9 : List Abs.Op := [
  ⟨some 4, none, false, .mv (.c (.bool true))⟩]

def a_law09_ints : Ann := ⟨[(8, [4]), (5, [0, 1, 5]), (7, [4]), (6, [0, 1, 5, 25]), (4, [0, 1, 5, 14]), (3, [0, 1, 5]), (2, [4]), (1, [0, 1, 10]), (0, [0, 1])], [(0, [0, 1, 5])], [], [], [], [], [], [], []⟩
def f_law09_ints : Abs.Fn := ⟨2, [.t 4],
  (.seq (.reg [0, 1] f_law09_ints_r0) (.seq (.seq (.reg [0, 1, 10] f_law09_ints_r1) (.ite (.t 10) (.seq (.reg [4] f_law09_ints_r2) .ret) .nop)) (.seq (.seq (.reg [0, 1, 5] f_law09_ints_r3) (.blk 0 (.loop [0, 1, 5] false f_law09_ints_l8))) (.seq (.reg [4] f_law09_ints_r9) .ret))))⟩

theorem e_law09_ints_r0 : type_of% f_law09_ints_r0.eq_1 := by_rfl f_law09_ints_r0.eq_1
theorem e_law09_ints_r1 : type_of% f_law09_ints_r1.eq_1 := by_rfl f_law09_ints_r1.eq_1
theorem e_law09_ints_r2 : type_of% f_law09_ints_r2.eq_1 := by_rfl f_law09_ints_r2.eq_1
theorem e_law09_ints_r3 : type_of% f_law09_ints_r3.eq_1 := by_rfl f_law09_ints_r3.eq_1
theorem e_law09_ints_r4 : type_of% f_law09_ints_r4.eq_1 := by_rfl f_law09_ints_r4.eq_1
theorem e_law09_ints_r5 : type_of% f_law09_ints_r5.eq_1 := by_rfl f_law09_ints_r5.eq_1
theorem e_law09_ints_r6 : type_of% f_law09_ints_r6.eq_1 := by_rfl f_law09_ints_r6.eq_1
theorem e_law09_ints_r7 : type_of% f_law09_ints_r7.eq_1 := by_rfl f_law09_ints_r7.eq_1
theorem e_law09_ints_l8 : type_of% f_law09_ints_l8.eq_1 := by_rfl f_law09_ints_l8.eq_1
theorem e_law09_ints_r9 : type_of% f_law09_ints_r9.eq_1 := by_rfl f_law09_ints_r9.eq_1
theorem e_law09_ints : type_of% f_law09_ints.eq_1 := by_rfl f_law09_ints.eq_1
theorem ok_law09_ints : fnC Tryz.prog a_law09_ints Tryz.f22 = some f_law09_ints := by kernel_rfl

/-! 23 fumarole/tremor.all[fumarole/tremor.Rule] -/
def f_tremor_all_tremor_Rule_r0 : List Abs.Op := [
  ⟨some 3, none, false, .boxi (.t 1)⟩,
  ⟨some 4, none, false, .mv (.c (.bool false))⟩]

def f_tremor_all_tremor_Rule_r1 : List Abs.Op := [
  ⟨some 5, none, false, .mv (.t 0)⟩,
  ⟨some 6, none, false, .mkf i_tremor_all_tremor_Rule_1 [] [(.t 3)]⟩,
  ⟨some 7, none, false, .call false (.c (.fn i_slices_ContainsFunc_tremor_Rule [] [])) [(.t 5), (.t 6)]⟩,
  ⟨some 8, none, false, .un .not (.t 7)⟩,
  ⟨some 4, none, false, .mv (.t 8)⟩]

def a_tremor_all_tremor_Rule : Ann := ⟨[(1, [4]), (0, [0, 3])], [], [], [], [], [], [], [], []⟩
def f_tremor_all_tremor_Rule : Abs.Fn := ⟨2, [.t 4],
  (.seq (.reg [0, 3] f_tremor_all_tremor_Rule_r0) (.seq (.reg [4] f_tremor_all_tremor_Rule_r1) .ret))⟩

theorem e_tremor_all_tremor_Rule_r0 : type_of% f_tremor_all_tremor_Rule_r0.eq_1 := by_rfl f_tremor_all_tremor_Rule_r0.eq_1
theorem e_tremor_all_tremor_Rule_r1 : type_of% f_tremor_all_tremor_Rule_r1.eq_1 := by_rfl f_tremor_all_tremor_Rule_r1.eq_1
theorem e_tremor_all_tremor_Rule : type_of% f_tremor_all_tremor_Rule.eq_1 := by_rfl f_tremor_all_tremor_Rule.eq_1
theorem ok_tremor_all_tremor_Rule : fnC Tryz.prog a_tremor_all_tremor_Rule Tryz.f23 = some f_tremor_all_tremor_Rule := by kernel_rfl

/-! 24 (fumarole/tremor.Rule).valid -/
def f_tremor_Rule_valid_r0 : List Abs.Op := [
  ⟨some 1, none, false, .boxi (.t 0)⟩,
  ⟨some 2, none, false, .mv (.c (.bool false))⟩]

def f_tremor_Rule_valid_r1 : List Abs.Op := [
  ⟨some 3, none, false, .fadr 0 (.t 1)⟩,
  ⟨some 4, none, false, .ld true 3 (.t 3)⟩,
  ⟨some 5, none, false, .fadr 3 (.t 1)⟩,
  ⟨some 6, none, false, .ld true 3 (.t 5)⟩,
  ⟨some 7, none, false, .call false (.c (.fn i_tremor_box [] [])) [(.t 4), (.t 6)]⟩,
  ⟨some 8, none, false, .mv (.t 7)⟩,
  ⟨some 9, some (8, true), false, .fadr 6 (.t 1)⟩,
  ⟨some 10, some (8, true), false, .ld false 1 (.t 9)⟩,
  ⟨some 11, some (8, true), false, .call false (.c (.fn i_tremor_within [] [])) [(.t 10), (.c (.int .i64 0)), (.c (.int .i64 160))]⟩,
  ⟨some 12, none, false, .pick (.t 8) (.t 11) (.c (.bool false))⟩,
  ⟨some 13, none, false, .mv (.t 12)⟩,
  ⟨some 14, some (13, true), false, .fadr 7 (.t 1)⟩,
  ⟨some 15, some (13, true), false, .ld false 1 (.t 14)⟩,
  ⟨some 16, some (13, true), false, .call false (.c (.fn i_tremor_within [] [])) [(.t 15), (.c (.int .i64 1)), (.c (.int .i64 1000000))]⟩,
  ⟨some 17, none, false, .pick (.t 13) (.t 16) (.c (.bool false))⟩,
  ⟨some 18, none, false, .mv (.t 17)⟩,
  ⟨some 19, some (18, true), false, .fadr 8 (.t 1)⟩,
  ⟨some 20, some (18, true), false, .ld false 1 (.t 19)⟩,
  ⟨some 21, some (18, true), false, .call false (.c (.fn i_tremor_within [] [])) [(.t 20), (.c (.int .i64 1)), (.c (.int .i64 200))]⟩,
  ⟨some 22, none, false, .pick (.t 18) (.t 21) (.c (.bool false))⟩,
  ⟨some 23, none, false, .mv (.t 22)⟩,
  ⟨some 24, some (23, true), false, .fadr 9 (.t 1)⟩,
  ⟨some 25, some (23, true), false, .ld false 1 (.t 24)⟩,
  ⟨some 26, some (23, true), false, .bin .eql (.t 25) (.c (.int .u8 1))⟩,
  ⟨some 27, some (23, true), false, .mv (.t 26)⟩,
  ⟨some 28, some (27, false), false, .fadr 9 (.t 1)⟩,
  ⟨some 29, some (27, false), false, .ld false 1 (.t 28)⟩,
  ⟨some 30, some (27, false), false, .bin .eql (.t 29) (.c (.int .u8 2))⟩,
  ⟨some 31, some (23, true), false, .pick (.t 27) (.c (.bool true)) (.t 30)⟩,
  ⟨some 32, none, false, .pick (.t 23) (.t 31) (.c (.bool false))⟩,
  ⟨some 2, none, false, .mv (.t 32)⟩]

def a_tremor_Rule_valid : Ann := ⟨[(1, [2]), (0, [1])], [], [], [], [], [], [], [], []⟩
def f_tremor_Rule_valid : Abs.Fn := ⟨1, [.t 2],
  (.seq (.reg [1] f_tremor_Rule_valid_r0) (.seq (.reg [2] f_tremor_Rule_valid_r1) .ret))⟩

theorem e_tremor_Rule_valid_r0 : type_of% f_tremor_Rule_valid_r0.eq_1 := by_rfl f_tremor_Rule_valid_r0.eq_1
theorem e_tremor_Rule_valid_r1 : type_of% f_tremor_Rule_valid_r1.eq_1 := by_rfl f_tremor_Rule_valid_r1.eq_1
theorem e_tremor_Rule_valid : type_of% f_tremor_Rule_valid.eq_1 := by_rfl f_tremor_Rule_valid.eq_1
theorem ok_tremor_Rule_valid : fnC Tryz.prog a_tremor_Rule_valid Tryz.f24 = some f_tremor_Rule_valid := by kernel_rfl

/-! 25 fumarole/tremor.all[fumarole/tremor.Event] -/
def f_tremor_all_tremor_Event_r0 : List Abs.Op := [
  ⟨some 3, none, false, .boxi (.t 1)⟩,
  ⟨some 4, none, false, .mv (.c (.bool false))⟩]

def f_tremor_all_tremor_Event_r1 : List Abs.Op := [
  ⟨some 5, none, false, .mv (.t 0)⟩,
  ⟨some 6, none, false, .mkf i_tremor_all_tremor_Event_1 [] [(.t 3)]⟩,
  ⟨some 7, none, false, .call false (.c (.fn i_slices_ContainsFunc_tremor_Event [] [])) [(.t 5), (.t 6)]⟩,
  ⟨some 8, none, false, .un .not (.t 7)⟩,
  ⟨some 4, none, false, .mv (.t 8)⟩]

def a_tremor_all_tremor_Event : Ann := ⟨[(1, [4]), (0, [0, 3])], [], [], [], [], [], [], [], []⟩
def f_tremor_all_tremor_Event : Abs.Fn := ⟨2, [.t 4],
  (.seq (.reg [0, 3] f_tremor_all_tremor_Event_r0) (.seq (.reg [4] f_tremor_all_tremor_Event_r1) .ret))⟩

theorem e_tremor_all_tremor_Event_r0 : type_of% f_tremor_all_tremor_Event_r0.eq_1 := by_rfl f_tremor_all_tremor_Event_r0.eq_1
theorem e_tremor_all_tremor_Event_r1 : type_of% f_tremor_all_tremor_Event_r1.eq_1 := by_rfl f_tremor_all_tremor_Event_r1.eq_1
theorem e_tremor_all_tremor_Event : type_of% f_tremor_all_tremor_Event.eq_1 := by_rfl f_tremor_all_tremor_Event.eq_1
theorem ok_tremor_all_tremor_Event : fnC Tryz.prog a_tremor_all_tremor_Event Tryz.f25 = some f_tremor_all_tremor_Event := by kernel_rfl

/-! 26 (fumarole/tremor.Event).valid -/
def f_tremor_Event_valid_r0 : List Abs.Op := [
  ⟨some 1, none, false, .boxi (.t 0)⟩,
  ⟨some 2, none, false, .mv (.c (.bool false))⟩]

def f_tremor_Event_valid_r1 : List Abs.Op := [
  ⟨some 3, none, false, .fadr 0 (.t 1)⟩,
  ⟨some 4, none, false, .ld false 1 (.t 3)⟩,
  ⟨some 5, none, false, .call false (.c (.fn i_tremor_within [] [])) [(.t 4), (.c (.int .i64 0)), (.c (.int .i64 1000000))]⟩,
  ⟨some 6, none, false, .mv (.t 5)⟩,
  ⟨some 7, some (6, true), false, .fadr 1 (.t 1)⟩,
  ⟨some 8, some (6, true), false, .ld false 1 (.t 7)⟩,
  ⟨some 9, some (6, true), false, .lenS (.t 8)⟩,
  ⟨some 10, some (6, true), false, .call false (.c (.fn i_tremor_within [] [])) [(.t 9), (.c (.int .i64 1)), (.c (.int .i64 2000))]⟩,
  ⟨some 11, none, false, .pick (.t 6) (.t 10) (.c (.bool false))⟩,
  ⟨some 12, none, false, .mv (.t 11)⟩,
  ⟨some 13, some (12, true), false, .fadr 1 (.t 1)⟩,
  ⟨some 14, some (12, true), false, .ld false 1 (.t 13)⟩,
  ⟨some 15, some (12, true), false, .call false (.c (.fn i_tremor_all_tremor_Spot [] [])) [(.t 14), (.c (.fn i_tremor_Event_valid_1 [] []))]⟩,
  ⟨some 16, none, false, .pick (.t 12) (.t 15) (.c (.bool false))⟩,
  ⟨some 2, none, false, .mv (.t 16)⟩]

def a_tremor_Event_valid : Ann := ⟨[(1, [2]), (0, [1])], [], [], [], [], [], [], [], []⟩
def f_tremor_Event_valid : Abs.Fn := ⟨1, [.t 2],
  (.seq (.reg [1] f_tremor_Event_valid_r0) (.seq (.reg [2] f_tremor_Event_valid_r1) .ret))⟩

theorem e_tremor_Event_valid_r0 : type_of% f_tremor_Event_valid_r0.eq_1 := by_rfl f_tremor_Event_valid_r0.eq_1
theorem e_tremor_Event_valid_r1 : type_of% f_tremor_Event_valid_r1.eq_1 := by_rfl f_tremor_Event_valid_r1.eq_1
theorem e_tremor_Event_valid : type_of% f_tremor_Event_valid.eq_1 := by_rfl f_tremor_Event_valid.eq_1
theorem ok_tremor_Event_valid : fnC Tryz.prog a_tremor_Event_valid Tryz.f26 = some f_tremor_Event_valid := by kernel_rfl

/-! 27 fumarole/tremor.within -/
def f_tremor_within_r0 : List Abs.Op := [
  ⟨some 6, none, false, .mv (.c (.bool false))⟩]

def f_tremor_within_r1 : List Abs.Op := [
  ⟨some 7, none, false, .mv (.t 1)⟩,
  ⟨some 8, none, false, .mv (.t 0)⟩,
  ⟨some 9, none, false, .bin .leq (.t 7) (.t 8)⟩,
  ⟨some 10, none, false, .mv (.t 9)⟩,
  ⟨some 11, some (10, true), false, .mv (.t 0)⟩,
  ⟨some 12, some (10, true), false, .mv (.t 2)⟩,
  ⟨some 13, some (10, true), false, .bin .leq (.t 11) (.t 12)⟩,
  ⟨some 14, none, false, .pick (.t 10) (.t 13) (.c (.bool false))⟩,
  ⟨some 6, none, false, .mv (.t 14)⟩]

def a_tremor_within : Ann := ⟨[(1, [6]), (0, [0, 1, 2])], [], [], [], [], [], [], [], []⟩
def f_tremor_within : Abs.Fn := ⟨3, [.t 6],
  (.seq (.reg [0, 1, 2] f_tremor_within_r0) (.seq (.reg [6] f_tremor_within_r1) .ret))⟩

theorem e_tremor_within_r0 : type_of% f_tremor_within_r0.eq_1 := by_rfl f_tremor_within_r0.eq_1
theorem e_tremor_within_r1 : type_of% f_tremor_within_r1.eq_1 := by_rfl f_tremor_within_r1.eq_1
theorem e_tremor_within : type_of% f_tremor_within.eq_1 := by_rfl f_tremor_within.eq_1
theorem ok_tremor_within : fnC Tryz.prog a_tremor_within Tryz.f27 = some f_tremor_within := by kernel_rfl

/-! 28 (fumarole/tremor.Rule).counts -/
def f_tremor_Rule_counts_r0 : List Abs.Op := [
  ⟨some 2, none, false, .boxi (.t 0)⟩,
  ⟨some 3, none, false, .boxi (.t 1)⟩,
  ⟨some 4, none, false, .mv (.c (.bool false))⟩]

def f_tremor_Rule_counts_r1 : List Abs.Op := [
  ⟨some 6, none, false, .fadr 0 (.t 3)⟩,
  ⟨some 7, none, false, .ld true 3 (.t 6)⟩,
  ⟨some 5, none, false, .alcv [] [(.int .i64 0), (.int .i64 0), (.int .i64 0)]⟩,
  ⟨none, none, false, .stv 5 [] 3 5 (.t 7)⟩]

def f_tremor_Rule_counts_r2 : List Abs.Op := [
  ⟨some 8, none, false, .fadr 3 (.t 3)⟩,
  ⟨some 9, none, false, .ld false 1 (.t 8)⟩,
  ⟨some 10, none, false, .fadr 6 (.t 2)⟩,
  ⟨some 11, none, false, .ld false 1 (.t 10)⟩,
  ⟨some 12, none, false, .bin .geq (.t 9) (.t 11)⟩,
  ⟨some 13, none, false, .mv (.t 12)⟩,
  ⟨some 14, some (13, true), false, .fadr 0 (.t 5)⟩,
  ⟨some 15, some (13, true), false, .ldv 5 false 1 14⟩,
  ⟨some 16, some (13, true), false, .fadr 0 (.t 2)⟩,
  ⟨some 17, some (13, true), false, .fadr 0 (.t 16)⟩,
  ⟨some 18, some (13, true), false, .ld false 1 (.t 17)⟩,
  ⟨some 19, some (13, true), false, .fadr 3 (.t 2)⟩,
  ⟨some 20, some (13, true), false, .fadr 0 (.t 19)⟩,
  ⟨some 21, some (13, true), false, .ld false 1 (.t 20)⟩,
  ⟨some 22, some (13, true), false, .call false (.c (.fn i_tremor_within [] [])) [(.t 15), (.t 18), (.t 21)]⟩,
  ⟨some 23, none, false, .pick (.t 13) (.t 22) (.c (.bool false))⟩,
  ⟨some 24, none, false, .mv (.t 23)⟩,
  ⟨some 25, some (24, true), false, .fadr 1 (.t 5)⟩,
  ⟨some 26, some (24, true), false, .ldv 5 false 1 25⟩,
  ⟨some 27, some (24, true), false, .fadr 0 (.t 2)⟩,
  ⟨some 28, some (24, true), false, .fadr 1 (.t 27)⟩,
  ⟨some 29, some (24, true), false, .ld false 1 (.t 28)⟩,
  ⟨some 30, some (24, true), false, .fadr 3 (.t 2)⟩,
  ⟨some 31, some (24, true), false, .fadr 1 (.t 30)⟩,
  ⟨some 32, some (24, true), false, .ld false 1 (.t 31)⟩,
  ⟨some 33, some (24, true), false, .call false (.c (.fn i_tremor_within [] [])) [(.t 26), (.t 29), (.t 32)]⟩,
  ⟨some 34, none, false, .pick (.t 24) (.t 33) (.c (.bool false))⟩,
  ⟨some 35, none, false, .mv (.t 34)⟩,
  ⟨some 36, some (35, true), false, .fadr 2 (.t 5)⟩,
  ⟨some 37, some (35, true), false, .ldv 5 false 1 36⟩,
  ⟨some 38, some (35, true), false, .fadr 0 (.t 2)⟩,
  ⟨some 39, some (35, true), false, .fadr 2 (.t 38)⟩,
  ⟨some 40, some (35, true), false, .ld false 1 (.t 39)⟩,
  ⟨some 41, some (35, true), false, .fadr 3 (.t 2)⟩,
  ⟨some 42, some (35, true), false, .fadr 2 (.t 41)⟩,
  ⟨some 43, some (35, true), false, .ld false 1 (.t 42)⟩,
  ⟨some 44, some (35, true), false, .call false (.c (.fn i_tremor_within [] [])) [(.t 37), (.t 40), (.t 43)]⟩,
  ⟨some 45, none, false, .pick (.t 35) (.t 44) (.c (.bool false))⟩,
  ⟨some 4, none, false, .mv (.t 45)⟩]

def a_tremor_Rule_counts : Ann := ⟨[(2, [4]), (1, [2, 3, 5]), (0, [2, 3])], [], [], [5], [5], [], [], [], []⟩
def f_tremor_Rule_counts : Abs.Fn := ⟨2, [.t 4],
  (.seq (.reg [2, 3] f_tremor_Rule_counts_r0) (.seq (.reg [2, 3, 5] f_tremor_Rule_counts_r1) (.seq (.reg [4] f_tremor_Rule_counts_r2) .ret)))⟩

theorem e_tremor_Rule_counts_r0 : type_of% f_tremor_Rule_counts_r0.eq_1 := by_rfl f_tremor_Rule_counts_r0.eq_1
theorem e_tremor_Rule_counts_r1 : type_of% f_tremor_Rule_counts_r1.eq_1 := by_rfl f_tremor_Rule_counts_r1.eq_1
theorem e_tremor_Rule_counts_r2 : type_of% f_tremor_Rule_counts_r2.eq_1 := by_rfl f_tremor_Rule_counts_r2.eq_1
theorem e_tremor_Rule_counts : type_of% f_tremor_Rule_counts.eq_1 := by_rfl f_tremor_Rule_counts.eq_1
theorem ok_tremor_Rule_counts : fnC Tryz.prog a_tremor_Rule_counts Tryz.f28 = some f_tremor_Rule_counts := by kernel_rfl

/-! 29 slices.ContainsFunc[[]fumarole/tremor.Spot,fumarole/tremor.Spot] -/
def f_slices_ContainsFunc_tremor_Spot_r0 : List Abs.Op := [
  ⟨some 4, none, false, .mv (.c (.bool false))⟩]

def f_slices_ContainsFunc_tremor_Spot_r1 : List Abs.Op := [
  ⟨some 5, none, false, .mv (.t 0)⟩,
  ⟨some 6, none, false, .mv (.t 1)⟩,
  ⟨some 7, none, false, .call false (.c (.fn i_slices_IndexFunc_tremor_Spot [] [])) [(.t 5), (.t 6)]⟩,
  ⟨some 8, none, false, .bin .geq (.t 7) (.c (.int .i64 0))⟩,
  ⟨some 4, none, false, .mv (.t 8)⟩]

def a_slices_ContainsFunc_tremor_Spot : Ann := ⟨[(1, [4]), (0, [0, 1])], [], [], [], [], [], [], [], []⟩
def f_slices_ContainsFunc_tremor_Spot : Abs.Fn := ⟨2, [.t 4],
  (.seq (.reg [0, 1] f_slices_ContainsFunc_tremor_Spot_r0) (.seq (.reg [4] f_slices_ContainsFunc_tremor_Spot_r1) .ret))⟩

theorem e_slices_ContainsFunc_tremor_Spot_r0 : type_of% f_slices_ContainsFunc_tremor_Spot_r0.eq_1 := by_rfl f_slices_ContainsFunc_tremor_Spot_r0.eq_1
theorem e_slices_ContainsFunc_tremor_Spot_r1 : type_of% f_slices_ContainsFunc_tremor_Spot_r1.eq_1 := by_rfl f_slices_ContainsFunc_tremor_Spot_r1.eq_1
theorem e_slices_ContainsFunc_tremor_Spot : type_of% f_slices_ContainsFunc_tremor_Spot.eq_1 := by_rfl f_slices_ContainsFunc_tremor_Spot.eq_1
theorem ok_slices_ContainsFunc_tremor_Spot : fnC Tryz.prog a_slices_ContainsFunc_tremor_Spot Tryz.f29 = some f_slices_ContainsFunc_tremor_Spot := by kernel_rfl

/-! 30 fumarole/tremor.all[fumarole/tremor.Spot] -/
def f_tremor_all_tremor_Spot_r0 : List Abs.Op := [
  ⟨some 3, none, false, .boxi (.t 1)⟩,
  ⟨some 4, none, false, .mv (.c (.bool false))⟩]

def f_tremor_all_tremor_Spot_r1 : List Abs.Op := [
  ⟨some 5, none, false, .mv (.t 0)⟩,
  ⟨some 6, none, false, .mkf i_tremor_all_tremor_Spot_1 [] [(.t 3)]⟩,
  ⟨some 7, none, false, .call false (.c (.fn i_slices_ContainsFunc_tremor_Spot [] [])) [(.t 5), (.t 6)]⟩,
  ⟨some 8, none, false, .un .not (.t 7)⟩,
  ⟨some 4, none, false, .mv (.t 8)⟩]

def a_tremor_all_tremor_Spot : Ann := ⟨[(1, [4]), (0, [0, 3])], [], [], [], [], [], [], [], []⟩
def f_tremor_all_tremor_Spot : Abs.Fn := ⟨2, [.t 4],
  (.seq (.reg [0, 3] f_tremor_all_tremor_Spot_r0) (.seq (.reg [4] f_tremor_all_tremor_Spot_r1) .ret))⟩

theorem e_tremor_all_tremor_Spot_r0 : type_of% f_tremor_all_tremor_Spot_r0.eq_1 := by_rfl f_tremor_all_tremor_Spot_r0.eq_1
theorem e_tremor_all_tremor_Spot_r1 : type_of% f_tremor_all_tremor_Spot_r1.eq_1 := by_rfl f_tremor_all_tremor_Spot_r1.eq_1
theorem e_tremor_all_tremor_Spot : type_of% f_tremor_all_tremor_Spot.eq_1 := by_rfl f_tremor_all_tremor_Spot.eq_1
theorem ok_tremor_all_tremor_Spot : fnC Tryz.prog a_tremor_all_tremor_Spot Tryz.f30 = some f_tremor_all_tremor_Spot := by kernel_rfl

/-! 31 fumarole/fumarolelaw09.Point -/
def f_law09_Point_r0 : List Abs.Op := [
  ⟨some 1, none, false, .boxi (.t 0)⟩,
  ⟨some 2, none, false, .alcv [] [(.int .i64 0), (.int .i64 0), (.int .i64 0)]⟩]

def f_law09_Point_r1 : List Abs.Op := [
  ⟨some 3, none, false, .fadr 0 (.t 1)⟩,
  ⟨some 4, none, false, .ld false 1 (.t 3)⟩,
  ⟨some 5, none, false, .fadr 1 (.t 1)⟩,
  ⟨some 6, none, false, .ld false 1 (.t 5)⟩,
  ⟨some 7, none, false, .fadr 2 (.t 1)⟩,
  ⟨some 8, none, false, .ld false 1 (.t 7)⟩,
  ⟨some 9, none, false, .bld [(.int .i64 0), (.int .i64 0), (.int .i64 0)] [(0, 1, (.t 4)), (1, 1, (.t 6)), (2, 1, (.t 8))]⟩,
  ⟨none, none, false, .stv 2 [] 3 2 (.t 9)⟩]

def a_law09_Point : Ann := ⟨[(1, [2]), (0, [1, 2])], [], [], [2], [2], [], [], [], []⟩
def f_law09_Point : Abs.Fn := ⟨1, [.v 2 true 3],
  (.seq (.reg [1, 2] f_law09_Point_r0) (.seq (.reg [2] f_law09_Point_r1) .ret))⟩

theorem e_law09_Point_r0 : type_of% f_law09_Point_r0.eq_1 := by_rfl f_law09_Point_r0.eq_1
theorem e_law09_Point_r1 : type_of% f_law09_Point_r1.eq_1 := by_rfl f_law09_Point_r1.eq_1
theorem e_law09_Point : type_of% f_law09_Point.eq_1 := by_rfl f_law09_Point.eq_1
theorem ok_law09_Point : fnC Tryz.prog a_law09_Point Tryz.f31 = some f_law09_Point := by kernel_rfl

/-! 32 fumarole/fumaroleref09.Box -/
def f_ref09_Box_r0 : List Abs.Op := [
  ⟨some 2, none, false, .boxi (.t 0)⟩,
  ⟨some 3, none, false, .boxi (.t 1)⟩,
  ⟨some 4, none, false, .mv (.c (.bool false))⟩]

def f_ref09_Box_r1 : List Abs.Op := [
  ⟨some 5, none, false, .ld true 3 (.t 2)⟩,
  ⟨some 6, none, false, .call false (.c (.fn i_ref09_Dot [] [])) [(.t 5)]⟩,
  ⟨some 7, none, false, .mv (.t 6)⟩,
  ⟨some 8, some (7, true), false, .ld true 3 (.t 3)⟩,
  ⟨some 9, some (7, true), false, .call false (.c (.fn i_ref09_Dot [] [])) [(.t 8)]⟩,
  ⟨some 10, none, false, .pick (.t 7) (.t 9) (.c (.bool false))⟩,
  ⟨some 11, none, false, .mv (.t 10)⟩,
  ⟨some 12, some (11, true), false, .fadr 0 (.t 2)⟩,
  ⟨some 13, some (11, true), false, .ld false 1 (.t 12)⟩,
  ⟨some 14, some (11, true), false, .fadr 0 (.t 3)⟩,
  ⟨some 15, some (11, true), false, .ld false 1 (.t 14)⟩,
  ⟨some 16, some (11, true), false, .bin .leq (.t 13) (.t 15)⟩,
  ⟨some 17, none, false, .pick (.t 11) (.t 16) (.c (.bool false))⟩,
  ⟨some 18, none, false, .mv (.t 17)⟩,
  ⟨some 19, some (18, true), false, .fadr 1 (.t 2)⟩,
  ⟨some 20, some (18, true), false, .ld false 1 (.t 19)⟩,
  ⟨some 21, some (18, true), false, .fadr 1 (.t 3)⟩,
  ⟨some 22, some (18, true), false, .ld false 1 (.t 21)⟩,
  ⟨some 23, some (18, true), false, .bin .leq (.t 20) (.t 22)⟩,
  ⟨some 24, none, false, .pick (.t 18) (.t 23) (.c (.bool false))⟩,
  ⟨some 25, none, false, .mv (.t 24)⟩,
  ⟨some 26, some (25, true), false, .fadr 2 (.t 2)⟩,
  ⟨some 27, some (25, true), false, .ld false 1 (.t 26)⟩,
  ⟨some 28, some (25, true), false, .fadr 2 (.t 3)⟩,
  ⟨some 29, some (25, true), false, .ld false 1 (.t 28)⟩,
  ⟨some 30, some (25, true), false, .bin .leq (.t 27) (.t 29)⟩,
  ⟨some 31, none, false, .pick (.t 25) (.t 30) (.c (.bool false))⟩,
  ⟨some 4, none, false, .mv (.t 31)⟩]

def a_ref09_Box : Ann := ⟨[(1, [4]), (0, [2, 3])], [], [], [], [], [], [], [], []⟩
def f_ref09_Box : Abs.Fn := ⟨2, [.t 4],
  (.seq (.reg [2, 3] f_ref09_Box_r0) (.seq (.reg [4] f_ref09_Box_r1) .ret))⟩

theorem e_ref09_Box_r0 : type_of% f_ref09_Box_r0.eq_1 := by_rfl f_ref09_Box_r0.eq_1
theorem e_ref09_Box_r1 : type_of% f_ref09_Box_r1.eq_1 := by_rfl f_ref09_Box_r1.eq_1
theorem e_ref09_Box : type_of% f_ref09_Box.eq_1 := by_rfl f_ref09_Box.eq_1
theorem ok_ref09_Box : fnC Tryz.prog a_ref09_Box Tryz.f32 = some f_ref09_Box := by kernel_rfl

/-! 33 fumarole/fumaroleref09.Dot -/
def f_ref09_Dot_r0 : List Abs.Op := [
  ⟨some 1, none, false, .boxi (.t 0)⟩,
  ⟨some 2, none, false, .mv (.c (.bool false))⟩]

def f_ref09_Dot_r1 : List Abs.Op := [
  ⟨some 3, none, false, .fadr 0 (.t 1)⟩,
  ⟨some 4, none, false, .ld false 1 (.t 3)⟩,
  ⟨some 5, none, false, .call false (.c (.fn i_ref09_In [] [])) [(.t 4), (.c (.int .i64 (-20000))), (.c (.int .i64 20000))]⟩,
  ⟨some 6, none, false, .mv (.t 5)⟩,
  ⟨some 7, some (6, true), false, .fadr 1 (.t 1)⟩,
  ⟨some 8, some (6, true), false, .ld false 1 (.t 7)⟩,
  ⟨some 9, some (6, true), false, .call false (.c (.fn i_ref09_In [] [])) [(.t 8), (.c (.int .i64 (-20000))), (.c (.int .i64 20000))]⟩,
  ⟨some 10, none, false, .pick (.t 6) (.t 9) (.c (.bool false))⟩,
  ⟨some 11, none, false, .mv (.t 10)⟩,
  ⟨some 12, some (11, true), false, .fadr 2 (.t 1)⟩,
  ⟨some 13, some (11, true), false, .ld false 1 (.t 12)⟩,
  ⟨some 14, some (11, true), false, .call false (.c (.fn i_ref09_In [] [])) [(.t 13), (.c (.int .i64 (-20000))), (.c (.int .i64 20000))]⟩,
  ⟨some 15, none, false, .pick (.t 11) (.t 14) (.c (.bool false))⟩,
  ⟨some 2, none, false, .mv (.t 15)⟩]

def a_ref09_Dot : Ann := ⟨[(1, [2]), (0, [1])], [], [], [], [], [], [], [], []⟩
def f_ref09_Dot : Abs.Fn := ⟨1, [.t 2],
  (.seq (.reg [1] f_ref09_Dot_r0) (.seq (.reg [2] f_ref09_Dot_r1) .ret))⟩

theorem e_ref09_Dot_r0 : type_of% f_ref09_Dot_r0.eq_1 := by_rfl f_ref09_Dot_r0.eq_1
theorem e_ref09_Dot_r1 : type_of% f_ref09_Dot_r1.eq_1 := by_rfl f_ref09_Dot_r1.eq_1
theorem e_ref09_Dot : type_of% f_ref09_Dot.eq_1 := by_rfl f_ref09_Dot.eq_1
theorem ok_ref09_Dot : fnC Tryz.prog a_ref09_Dot Tryz.f33 = some f_ref09_Dot := by kernel_rfl

/-! 34 fumarole/fumaroleref09.Says -/
def f_ref09_Says_r0 : List Abs.Op := [
  ⟨some 4, none, false, .boxi (.t 0)⟩,
  ⟨some 8, none, false, .mv (.c (.int .u8 0))⟩]

def f_ref09_Says_r1 : List Abs.Op := [
  ⟨some 9, none, false, .mv (.c (.int .i64 0))⟩]

def f_ref09_Says_r2 : List Abs.Op := [
  ⟨some 10, none, false, .mv (.c (.int .i64 0))⟩]

def f_ref09_Says_r3 : List Abs.Op := [
  ⟨some 15, none, false, .mv (.t 10)⟩,
  ⟨some 16, none, false, .mv (.t 1)⟩,
  ⟨some 17, none, false, .lenS (.t 16)⟩,
  ⟨some 18, none, false, .bin .lss (.t 15) (.t 17)⟩]

def f_ref09_Says_r4 : List Abs.Op := [
  ⟨some 21, none, true, .mv (.t 1)⟩,
  ⟨some 22, none, true, .mv (.t 10)⟩,
  ⟨some 23, none, true, .idxS 2 (.t 21) (.t 22)⟩,
  ⟨some 24, none, true, .fadr 0 (.t 23)⟩,
  ⟨some 25, none, true, .ld false 1 (.t 24)⟩,
  ⟨some 26, none, true, .mv (.t 2)⟩,
  ⟨some 27, none, true, .fadr 7 (.t 4)⟩,
  ⟨some 28, none, true, .ld false 1 (.t 27)⟩,
  ⟨some 29, none, true, .bin .sub (.t 26) (.t 28)⟩,
  ⟨some 30, none, true, .bin .add (.t 29) (.c (.int .i64 1))⟩,
  ⟨some 31, none, true, .mv (.t 2)⟩,
  ⟨some 32, none, false, .call false (.c (.fn i_ref09_In [] [])) [(.t 25), (.t 30), (.t 31)]⟩,
  ⟨some 33, none, false, .un .not (.t 32)⟩]

def f_ref09_Says_r5 : List Abs.Op := [
  ⟨some 11, none, false, .mv (.c (.bool false))⟩,
  ⟨some 12, none, false, .mv (.c (.bool true))⟩]

def f_ref09_Says_r6 : List Abs.Op := [
  ⟨some 13, none, false, .mv (.c (.int .i64 0))⟩]

def f_ref09_Says_r7 : List Abs.Op := [
  ⟨some 34, none, false, .mv (.t 13)⟩,
  ⟨some 35, none, false, .mv (.t 1)⟩,
  ⟨some 36, none, false, .mv (.t 10)⟩,
  ⟨some 37, none, false, .idxS 2 (.t 35) (.t 36)⟩,
  ⟨some 38, none, false, .fadr 1 (.t 37)⟩,
  ⟨some 39, none, false, .ld false 1 (.t 38)⟩,
  ⟨some 40, none, false, .lenS (.t 39)⟩,
  ⟨some 41, none, false, .bin .lss (.t 34) (.t 40)⟩]

def f_ref09_Says_r8 : List Abs.Op := [
  ⟨some 44, none, true, .ld true 10 (.t 4)⟩,
  ⟨some 45, none, true, .mv (.t 1)⟩,
  ⟨some 46, none, true, .mv (.t 10)⟩,
  ⟨some 47, none, true, .idxS 2 (.t 45) (.t 46)⟩,
  ⟨some 48, none, true, .fadr 1 (.t 47)⟩,
  ⟨some 49, none, true, .ld false 1 (.t 48)⟩,
  ⟨some 50, none, true, .mv (.t 13)⟩,
  ⟨some 51, none, true, .idxS 4 (.t 49) (.t 50)⟩,
  ⟨some 52, none, true, .ld true 4 (.t 51)⟩,
  ⟨some 53, none, false, .call false (.c (.fn i_ref09_Counts [] [])) [(.t 44), (.t 52)]⟩,
  ⟨some 14, none, false, .mv (.t 53)⟩]

def f_ref09_Says_r9 : List Abs.Op := [
  ⟨some 54, none, false, .mv (.t 11)⟩,
  ⟨some 55, none, false, .mv (.t 54)⟩,
  ⟨some 56, some (55, false), false, .mv (.t 14)⟩,
  ⟨some 57, none, false, .pick (.t 55) (.c (.bool true)) (.t 56)⟩,
  ⟨some 58, none, false, .mv (.t 12)⟩,
  ⟨some 59, none, false, .mv (.t 58)⟩,
  ⟨some 60, some (59, true), false, .mv (.t 14)⟩,
  ⟨some 61, none, false, .pick (.t 59) (.t 60) (.c (.bool false))⟩,
  ⟨some 11, none, false, .mv (.t 57)⟩,
  ⟨some 12, none, false, .mv (.t 61)⟩]

def f_ref09_Says_r10 : List Abs.Op := [
  ⟨some 42, none, false, .mv (.t 13)⟩,
  ⟨some 43, none, false, .bin .add (.t 42) (.c (.int .i64 1))⟩,
  ⟨some 13, none, false, .mv (.t 43)⟩]

def f_ref09_Says_l11 : Abs.Cmd :=
  (.seq (.seq (.reg [1, 2, 3, 4, 9, 10, 11, 12, 13, 41] f_ref09_Says_r7) (.ite (.t 41) .nop (.exit 2))) (.seq (.blk 3 (.seq (.reg [1, 2, 3, 4, 9, 10, 11, 12, 13, 14] f_ref09_Says_r8) (.reg [1, 2, 3, 4, 9, 10, 11, 12, 13] f_ref09_Says_r9))) (.reg [1, 2, 3, 4, 9, 10, 11, 12, 13] f_ref09_Says_r10)))

def f_ref09_Says_r12 : List Abs.Op := [
  ⟨some 62, none, false, .mv (.t 3)⟩,
  ⟨some 63, none, false, .mv (.t 62)⟩,
  ⟨some 64, some (63, true), false, .mv (.t 12)⟩,
  ⟨some 65, none, false, .pick (.t 63) (.t 64) (.c (.bool false))⟩,
  ⟨some 66, none, false, .mv (.t 65)⟩,
  ⟨some 67, some (66, false), false, .mv (.t 3)⟩,
  ⟨some 68, some (66, false), false, .un .not (.t 67)⟩,
  ⟨some 69, some (66, false), false, .mv (.t 68)⟩,
  ⟨some 70, some (69, true), false, .mv (.t 11)⟩,
  ⟨some 71, some (66, false), false, .pick (.t 69) (.t 70) (.c (.bool false))⟩,
  ⟨some 72, none, false, .pick (.t 66) (.c (.bool true)) (.t 71)⟩]

def f_ref09_Says_r13 : List Abs.Op := [
  ⟨some 73, none, false, .mv (.t 9)⟩,
  ⟨some 74, none, false, .bin .add (.t 73) (.c (.int .i64 1))⟩,
  ⟨some 9, none, false, .mv (.t 74)⟩]

def f_ref09_Says_r14 : List Abs.Op := [
  ⟨some 19, none, false, .mv (.t 10)⟩,
  ⟨some 20, none, false, .bin .add (.t 19) (.c (.int .i64 1))⟩,
  ⟨some 10, none, false, .mv (.t 20)⟩]

def f_ref09_Says_l15 : Abs.Cmd :=
  (.seq (.seq (.reg [1, 2, 3, 4, 9, 10, 18] f_ref09_Says_r3) (.ite (.t 18) .nop (.exit 0))) (.seq (.blk 1 (.seq (.seq (.reg [1, 2, 3, 4, 9, 10, 33] f_ref09_Says_r4) (.ite (.t 33) (.exit 1) .nop)) (.seq (.reg [1, 2, 3, 4, 9, 10, 11, 12] f_ref09_Says_r5) (.seq (.seq (.reg [1, 2, 3, 4, 9, 10, 11, 12, 13] f_ref09_Says_r6) (.blk 2 (.loop [1, 2, 3, 4, 9, 10, 11, 12, 13] false f_ref09_Says_l11))) (.seq (.reg [1, 2, 3, 4, 9, 10, 72] f_ref09_Says_r12) (.ite (.t 72) (.reg [1, 2, 3, 4, 9, 10] f_ref09_Says_r13) .nop)))))) (.reg [1, 2, 3, 4, 9, 10] f_ref09_Says_r14)))

def f_ref09_Says_r16 : List Abs.Op := [
  ⟨some 75, none, false, .mv (.t 9)⟩,
  ⟨some 76, none, false, .fadr 8 (.t 4)⟩,
  ⟨some 77, none, false, .ld false 1 (.t 76)⟩,
  ⟨some 78, none, false, .bin .geq (.t 75) (.t 77)⟩]

def f_ref09_Says_r17 : List Abs.Op := [
  ⟨some 79, none, false, .fadr 9 (.t 4)⟩,
  ⟨some 80, none, false, .ld false 1 (.t 79)⟩,
  ⟨some 8, none, false, .mv (.t 80)⟩]

def f_ref09_Says_r18 : List Abs.Op := [
  ⟨some 8, none, false, .mv (.c (.int .u8 0))⟩]

def a_ref09_Says : Ann := ⟨[(16, [8]), (15, [8]), (14, [4, 78]), (4, [1, 2, 3, 4, 9, 10]), (13, [1, 2, 3, 4, 9, 10]), (12, [1, 2, 3, 4, 9, 10, 72]), (9, [1, 2, 3, 4, 9, 10, 11, 12, 13]), (11, [1, 2, 3, 4, 9, 10, 11, 12, 13]), (10, [1, 2, 3, 4, 9, 10, 11, 12, 13, 14]), (8, [1, 2, 3, 4, 9, 10, 11, 12, 13, 41]), (7, [1, 2, 3, 4, 9, 10, 11, 12, 13]), (6, [1, 2, 3, 4, 9, 10, 11, 12]), (5, [1, 2, 3, 4, 9, 10, 33]), (3, [1, 2, 3, 4, 9, 10, 18]), (2, [1, 2, 3, 4, 9, 10]), (1, [1, 2, 3, 4, 9]), (0, [1, 2, 3, 4])], [(2, [1, 2, 3, 4, 9, 10, 11, 12, 13]), (0, [1, 2, 3, 4, 9, 10])], [], [], [], [], [], [], []⟩
def f_ref09_Says : Abs.Fn := ⟨4, [.t 8],
  (.seq (.reg [1, 2, 3, 4] f_ref09_Says_r0) (.seq (.reg [1, 2, 3, 4, 9] f_ref09_Says_r1) (.seq (.seq (.reg [1, 2, 3, 4, 9, 10] f_ref09_Says_r2) (.blk 0 (.loop [1, 2, 3, 4, 9, 10] false f_ref09_Says_l15))) (.seq (.seq (.reg [4, 78] f_ref09_Says_r16) (.ite (.t 78) (.seq (.reg [8] f_ref09_Says_r17) .ret) .nop)) (.seq (.reg [8] f_ref09_Says_r18) .ret)))))⟩

theorem e_ref09_Says_r0 : type_of% f_ref09_Says_r0.eq_1 := by_rfl f_ref09_Says_r0.eq_1
theorem e_ref09_Says_r1 : type_of% f_ref09_Says_r1.eq_1 := by_rfl f_ref09_Says_r1.eq_1
theorem e_ref09_Says_r2 : type_of% f_ref09_Says_r2.eq_1 := by_rfl f_ref09_Says_r2.eq_1
theorem e_ref09_Says_r3 : type_of% f_ref09_Says_r3.eq_1 := by_rfl f_ref09_Says_r3.eq_1
theorem e_ref09_Says_r4 : type_of% f_ref09_Says_r4.eq_1 := by_rfl f_ref09_Says_r4.eq_1
theorem e_ref09_Says_r5 : type_of% f_ref09_Says_r5.eq_1 := by_rfl f_ref09_Says_r5.eq_1
theorem e_ref09_Says_r6 : type_of% f_ref09_Says_r6.eq_1 := by_rfl f_ref09_Says_r6.eq_1
theorem e_ref09_Says_r7 : type_of% f_ref09_Says_r7.eq_1 := by_rfl f_ref09_Says_r7.eq_1
theorem e_ref09_Says_r8 : type_of% f_ref09_Says_r8.eq_1 := by_rfl f_ref09_Says_r8.eq_1
theorem e_ref09_Says_r9 : type_of% f_ref09_Says_r9.eq_1 := by_rfl f_ref09_Says_r9.eq_1
theorem e_ref09_Says_r10 : type_of% f_ref09_Says_r10.eq_1 := by_rfl f_ref09_Says_r10.eq_1
theorem e_ref09_Says_l11 : type_of% f_ref09_Says_l11.eq_1 := by_rfl f_ref09_Says_l11.eq_1
theorem e_ref09_Says_r12 : type_of% f_ref09_Says_r12.eq_1 := by_rfl f_ref09_Says_r12.eq_1
theorem e_ref09_Says_r13 : type_of% f_ref09_Says_r13.eq_1 := by_rfl f_ref09_Says_r13.eq_1
theorem e_ref09_Says_r14 : type_of% f_ref09_Says_r14.eq_1 := by_rfl f_ref09_Says_r14.eq_1
theorem e_ref09_Says_l15 : type_of% f_ref09_Says_l15.eq_1 := by_rfl f_ref09_Says_l15.eq_1
theorem e_ref09_Says_r16 : type_of% f_ref09_Says_r16.eq_1 := by_rfl f_ref09_Says_r16.eq_1
theorem e_ref09_Says_r17 : type_of% f_ref09_Says_r17.eq_1 := by_rfl f_ref09_Says_r17.eq_1
theorem e_ref09_Says_r18 : type_of% f_ref09_Says_r18.eq_1 := by_rfl f_ref09_Says_r18.eq_1
theorem e_ref09_Says : type_of% f_ref09_Says.eq_1 := by_rfl f_ref09_Says.eq_1
theorem ok_ref09_Says : fnC Tryz.prog a_ref09_Says Tryz.f34 = some f_ref09_Says := by kernel_rfl

/-! 35 fumarole/fumarolelaw09.word -/
def f_law09_word_r0 : List Abs.Op := [
  ⟨some 4, none, false, .mv (.c (.int .i64 0))⟩]

def f_law09_word_r1 : List Abs.Op := [
  ⟨some 5, none, false, .mv (.t 0)⟩,
  ⟨some 6, none, false, .lenS (.t 5)⟩,
  ⟨some 7, none, false, .bin .eql (.t 6) (.c (.int .i64 0))⟩]

def f_law09_word_r2 : List Abs.Op := [
  ⟨some 4, none, false, .mv (.c (.int .i64 0))⟩]

def f_law09_word_r3 : List Abs.Op := [
  ⟨some 8, none, false, .mv (.t 0)⟩,
  ⟨some 9, none, false, .mv (.t 1)⟩,
  ⟨some 10, none, false, .mv (.t 0)⟩,
  ⟨some 11, none, false, .lenS (.t 10)⟩,
  ⟨some 12, none, false, .bin .rem (.t 9) (.t 11)⟩,
  ⟨some 13, none, false, .idxS 1 (.t 8) (.t 12)⟩,
  ⟨some 14, none, false, .ld false 1 (.t 13)⟩,
  ⟨some 15, none, false, .cvt .i64 (.t 14)⟩,
  ⟨some 4, none, false, .mv (.t 15)⟩]

def a_law09_word : Ann := ⟨[(3, [4]), (2, [4]), (1, [0, 1, 7]), (0, [0, 1])], [], [], [], [], [], [], [], []⟩
def f_law09_word : Abs.Fn := ⟨2, [.t 4],
  (.seq (.reg [0, 1] f_law09_word_r0) (.seq (.seq (.reg [0, 1, 7] f_law09_word_r1) (.ite (.t 7) (.seq (.reg [4] f_law09_word_r2) .ret) .nop)) (.seq (.reg [4] f_law09_word_r3) .ret)))⟩

theorem e_law09_word_r0 : type_of% f_law09_word_r0.eq_1 := by_rfl f_law09_word_r0.eq_1
theorem e_law09_word_r1 : type_of% f_law09_word_r1.eq_1 := by_rfl f_law09_word_r1.eq_1
theorem e_law09_word_r2 : type_of% f_law09_word_r2.eq_1 := by_rfl f_law09_word_r2.eq_1
theorem e_law09_word_r3 : type_of% f_law09_word_r3.eq_1 := by_rfl f_law09_word_r3.eq_1
theorem e_law09_word : type_of% f_law09_word.eq_1 := by_rfl f_law09_word.eq_1
theorem ok_law09_word : fnC Tryz.prog a_law09_word Tryz.f35 = some f_law09_word := by kernel_rfl

/-! 36 fumarole/fumaroleref09.Counts -/
def f_ref09_Counts_r0 : List Abs.Op := [
  ⟨some 2, none, false, .boxi (.t 0)⟩,
  ⟨some 3, none, false, .boxi (.t 1)⟩,
  ⟨some 4, none, false, .mv (.c (.bool false))⟩]

def f_ref09_Counts_r1 : List Abs.Op := [
  ⟨some 5, none, false, .fadr 0 (.t 3)⟩,
  ⟨some 6, none, false, .ld true 3 (.t 5)⟩,
  ⟨some 7, none, false, .fadr 0 (.t 2)⟩,
  ⟨some 8, none, false, .ld true 3 (.t 7)⟩,
  ⟨some 9, none, false, .fadr 3 (.t 2)⟩,
  ⟨some 10, none, false, .ld true 3 (.t 9)⟩,
  ⟨some 11, none, false, .call false (.c (.fn i_ref09_Inside [] [])) [(.t 6), (.t 8), (.t 10)]⟩,
  ⟨some 12, none, false, .mv (.t 11)⟩,
  ⟨some 13, some (12, true), false, .fadr 3 (.t 3)⟩,
  ⟨some 14, some (12, true), false, .ld false 1 (.t 13)⟩,
  ⟨some 15, some (12, true), false, .fadr 6 (.t 2)⟩,
  ⟨some 16, some (12, true), false, .ld false 1 (.t 15)⟩,
  ⟨some 17, some (12, true), false, .bin .geq (.t 14) (.t 16)⟩,
  ⟨some 18, none, false, .pick (.t 12) (.t 17) (.c (.bool false))⟩,
  ⟨some 4, none, false, .mv (.t 18)⟩]

def a_ref09_Counts : Ann := ⟨[(1, [4]), (0, [2, 3])], [], [], [], [], [], [], [], []⟩
def f_ref09_Counts : Abs.Fn := ⟨2, [.t 4],
  (.seq (.reg [2, 3] f_ref09_Counts_r0) (.seq (.reg [4] f_ref09_Counts_r1) .ret))⟩

theorem e_ref09_Counts_r0 : type_of% f_ref09_Counts_r0.eq_1 := by_rfl f_ref09_Counts_r0.eq_1
theorem e_ref09_Counts_r1 : type_of% f_ref09_Counts_r1.eq_1 := by_rfl f_ref09_Counts_r1.eq_1
theorem e_ref09_Counts : type_of% f_ref09_Counts.eq_1 := by_rfl f_ref09_Counts.eq_1
theorem ok_ref09_Counts : fnC Tryz.prog a_ref09_Counts Tryz.f36 = some f_ref09_Counts := by kernel_rfl

/-! 37 (fumarole/tremor.Net).valid -/
def f_tremor_Net_valid_r0 : List Abs.Op := [
  ⟨some 1, none, false, .boxi (.t 0)⟩,
  ⟨some 2, none, false, .mv (.c (.bool false))⟩]

def f_tremor_Net_valid_r1 : List Abs.Op := [
  ⟨some 4, none, false, .fadr 0 (.t 1)⟩,
  ⟨some 5, none, false, .ld false 1 (.t 4)⟩,
  ⟨some 6, none, false, .lenS (.t 5)⟩,
  ⟨some 7, none, false, .call false (.c (.fn i_tremor_within [] [])) [(.t 6), (.c (.int .i64 1)), (.c (.int .i64 12))]⟩,
  ⟨some 8, none, false, .un .not (.t 7)⟩,
  ⟨some 9, none, false, .mv (.t 8)⟩,
  ⟨some 10, some (9, false), false, .fadr 0 (.t 1)⟩,
  ⟨some 11, some (9, false), false, .ld false 1 (.t 10)⟩,
  ⟨some 12, some (9, false), false, .call false (.c (.fn i_tremor_all_tremor_Station [] [])) [(.t 11), (.c (.fn i_tremor_Station_valid [] []))]⟩,
  ⟨some 13, some (9, false), false, .un .not (.t 12)⟩,
  ⟨some 14, none, false, .pick (.t 9) (.c (.bool true)) (.t 13)⟩,
  ⟨some 15, none, false, .mv (.t 14)⟩,
  ⟨some 16, some (15, false), false, .fadr 5 (.t 1)⟩,
  ⟨some 17, some (15, false), false, .ld true 3 (.t 16)⟩,
  ⟨some 18, some (15, false), false, .fadr 8 (.t 1)⟩,
  ⟨some 19, some (15, false), false, .ld true 3 (.t 18)⟩,
  ⟨some 20, some (15, false), false, .call false (.c (.fn i_tremor_box [] [])) [(.t 17), (.t 19)]⟩,
  ⟨some 21, some (15, false), false, .un .not (.t 20)⟩,
  ⟨some 22, none, false, .pick (.t 15) (.c (.bool true)) (.t 21)⟩,
  ⟨some 23, none, false, .mv (.t 22)⟩,
  ⟨some 24, some (23, false), false, .fadr 11 (.t 1)⟩,
  ⟨some 25, some (23, false), false, .ld false 1 (.t 24)⟩,
  ⟨some 26, some (23, false), false, .call false (.c (.fn i_tremor_within [] [])) [(.t 25), (.c (.int .i64 1)), (.c (.int .i64 20000))]⟩,
  ⟨some 27, some (23, false), false, .un .not (.t 26)⟩,
  ⟨some 28, none, false, .pick (.t 23) (.c (.bool true)) (.t 27)⟩,
  ⟨some 29, none, false, .mv (.t 28)⟩,
  ⟨some 30, some (29, false), false, .fadr 1 (.t 1)⟩,
  ⟨some 31, some (29, false), false, .slca 2 2 (.t 30) none none⟩,
  ⟨some 32, some (29, false), false, .call false (.c (.fn i_tremor_all_tremor_Range [] [])) [(.t 31), (.c (.fn i_tremor_Net_valid_1 [] []))]⟩,
  ⟨some 33, some (29, false), false, .un .not (.t 32)⟩,
  ⟨some 34, none, false, .pick (.t 29) (.c (.bool true)) (.t 33)⟩]

def f_tremor_Net_valid_r2 : List Abs.Op := [
  ⟨some 2, none, false, .mv (.c (.bool false))⟩]

def f_tremor_Net_valid_r3 : List Abs.Op := [
  ⟨some 35, none, false, .ld true 12 (.t 1)⟩,
  ⟨some 36, none, false, .mkf i_tremor_Net_steps [(.t 35)] []⟩,
  ⟨some 3, none, false, .mv (.t 36)⟩]

def f_tremor_Net_valid_r4 : List Abs.Op := [
  ⟨some 37, none, true, .mv (.t 3)⟩,
  ⟨some 38, none, true, .fadr 5 (.t 1)⟩,
  ⟨some 39, none, true, .fadr 0 (.t 38)⟩,
  ⟨some 40, none, true, .ld false 1 (.t 39)⟩,
  ⟨some 41, none, true, .fadr 8 (.t 1)⟩,
  ⟨some 42, none, true, .fadr 0 (.t 41)⟩,
  ⟨some 43, none, true, .ld false 1 (.t 42)⟩,
  ⟨some 44, none, true, .call false (.t 37) [(.t 40), (.t 43)]⟩,
  ⟨some 45, none, true, .mv (.t 3)⟩,
  ⟨some 46, none, true, .fadr 5 (.t 1)⟩,
  ⟨some 47, none, true, .fadr 1 (.t 46)⟩,
  ⟨some 48, none, true, .ld false 1 (.t 47)⟩,
  ⟨some 49, none, true, .fadr 8 (.t 1)⟩,
  ⟨some 50, none, true, .fadr 1 (.t 49)⟩,
  ⟨some 51, none, true, .ld false 1 (.t 50)⟩,
  ⟨some 52, none, true, .call false (.t 45) [(.t 48), (.t 51)]⟩,
  ⟨some 53, none, true, .bin .mul (.t 44) (.t 52)⟩,
  ⟨some 54, none, true, .mv (.t 3)⟩,
  ⟨some 55, none, true, .fadr 5 (.t 1)⟩,
  ⟨some 56, none, true, .fadr 2 (.t 55)⟩,
  ⟨some 57, none, true, .ld false 1 (.t 56)⟩,
  ⟨some 58, none, true, .fadr 8 (.t 1)⟩,
  ⟨some 59, none, true, .fadr 2 (.t 58)⟩,
  ⟨some 60, none, true, .ld false 1 (.t 59)⟩,
  ⟨some 61, none, true, .call false (.t 54) [(.t 57), (.t 60)]⟩,
  ⟨some 62, none, false, .bin .mul (.t 53) (.t 61)⟩,
  ⟨some 63, none, false, .bin .leq (.t 62) (.c (.int .i64 2000))⟩,
  ⟨some 2, none, false, .mv (.t 63)⟩]

def a_tremor_Net_valid : Ann := ⟨[(4, [2]), (3, [1, 3]), (2, [2]), (1, [1, 34]), (0, [1])], [], [], [], [], [], [], [], []⟩
def f_tremor_Net_valid : Abs.Fn := ⟨1, [.t 2],
  (.seq (.reg [1] f_tremor_Net_valid_r0) (.seq (.seq (.reg [1, 34] f_tremor_Net_valid_r1) (.ite (.t 34) (.seq (.reg [2] f_tremor_Net_valid_r2) .ret) .nop)) (.seq (.reg [1, 3] f_tremor_Net_valid_r3) (.seq (.reg [2] f_tremor_Net_valid_r4) .ret))))⟩

theorem e_tremor_Net_valid_r0 : type_of% f_tremor_Net_valid_r0.eq_1 := by_rfl f_tremor_Net_valid_r0.eq_1
theorem e_tremor_Net_valid_r1 : type_of% f_tremor_Net_valid_r1.eq_1 := by_rfl f_tremor_Net_valid_r1.eq_1
theorem e_tremor_Net_valid_r2 : type_of% f_tremor_Net_valid_r2.eq_1 := by_rfl f_tremor_Net_valid_r2.eq_1
theorem e_tremor_Net_valid_r3 : type_of% f_tremor_Net_valid_r3.eq_1 := by_rfl f_tremor_Net_valid_r3.eq_1
theorem e_tremor_Net_valid_r4 : type_of% f_tremor_Net_valid_r4.eq_1 := by_rfl f_tremor_Net_valid_r4.eq_1
theorem e_tremor_Net_valid : type_of% f_tremor_Net_valid.eq_1 := by_rfl f_tremor_Net_valid.eq_1
theorem ok_tremor_Net_valid : fnC Tryz.prog a_tremor_Net_valid Tryz.f37 = some f_tremor_Net_valid := by kernel_rfl

/-! 38 (fumarole/tremor.Net).has -/
def f_tremor_Net_has_r0 : List Abs.Op := [
  ⟨some 2, none, false, .boxi (.t 0)⟩,
  ⟨some 4, none, false, .mv (.c (.bool false))⟩]

def f_tremor_Net_has_r1 : List Abs.Op := [
  ⟨some 5, none, false, .mv (.t 1)⟩,
  ⟨some 6, none, false, .fadr 0 (.t 2)⟩,
  ⟨some 7, none, false, .ld false 1 (.t 6)⟩,
  ⟨some 8, none, false, .lenS (.t 7)⟩,
  ⟨some 9, none, false, .bin .sub (.t 8) (.c (.int .i64 1))⟩,
  ⟨some 10, none, false, .call false (.c (.fn i_tremor_within [] [])) [(.t 5), (.c (.int .i64 0)), (.t 9)]⟩,
  ⟨some 4, none, false, .mv (.t 10)⟩]

def a_tremor_Net_has : Ann := ⟨[(1, [4]), (0, [1, 2])], [], [], [], [], [], [], [], []⟩
def f_tremor_Net_has : Abs.Fn := ⟨2, [.t 4],
  (.seq (.reg [1, 2] f_tremor_Net_has_r0) (.seq (.reg [4] f_tremor_Net_has_r1) .ret))⟩

theorem e_tremor_Net_has_r0 : type_of% f_tremor_Net_has_r0.eq_1 := by_rfl f_tremor_Net_has_r0.eq_1
theorem e_tremor_Net_has_r1 : type_of% f_tremor_Net_has_r1.eq_1 := by_rfl f_tremor_Net_has_r1.eq_1
theorem e_tremor_Net_has : type_of% f_tremor_Net_has.eq_1 := by_rfl f_tremor_Net_has.eq_1
theorem ok_tremor_Net_has : fnC Tryz.prog a_tremor_Net_has Tryz.f38 = some f_tremor_Net_has := by kernel_rfl

/-! 39 (fumarole/tremor.Point).valid -/
def f_tremor_Point_valid_r0 : List Abs.Op := [
  ⟨some 1, none, false, .boxi (.t 0)⟩,
  ⟨some 2, none, false, .mv (.c (.bool false))⟩]

def f_tremor_Point_valid_r1 : List Abs.Op := [
  ⟨some 3, none, false, .fadr 0 (.t 1)⟩,
  ⟨some 4, none, false, .ld false 1 (.t 3)⟩,
  ⟨some 5, none, false, .fadr 1 (.t 1)⟩,
  ⟨some 6, none, false, .ld false 1 (.t 5)⟩,
  ⟨some 7, none, false, .fadr 2 (.t 1)⟩,
  ⟨some 8, none, false, .ld false 1 (.t 7)⟩,
  ⟨some 9, none, false, .bsi 3 1 [(.int .i64 0), (.int .i64 0), (.int .i64 0)] [(0, 1, (.t 4)), (1, 1, (.t 6)), (2, 1, (.t 8))]⟩,
  ⟨some 10, none, false, .call false (.c (.fn i_tremor_all_int [] [])) [(.t 9), (.c (.fn i_tremor_Point_valid_1 [] []))]⟩,
  ⟨some 2, none, false, .mv (.t 10)⟩]

def a_tremor_Point_valid : Ann := ⟨[(1, [2]), (0, [1])], [], [], [], [], [], [], [], []⟩
def f_tremor_Point_valid : Abs.Fn := ⟨1, [.t 2],
  (.seq (.reg [1] f_tremor_Point_valid_r0) (.seq (.reg [2] f_tremor_Point_valid_r1) .ret))⟩

theorem e_tremor_Point_valid_r0 : type_of% f_tremor_Point_valid_r0.eq_1 := by_rfl f_tremor_Point_valid_r0.eq_1
theorem e_tremor_Point_valid_r1 : type_of% f_tremor_Point_valid_r1.eq_1 := by_rfl f_tremor_Point_valid_r1.eq_1
theorem e_tremor_Point_valid : type_of% f_tremor_Point_valid.eq_1 := by_rfl f_tremor_Point_valid.eq_1
theorem ok_tremor_Point_valid : fnC Tryz.prog a_tremor_Point_valid Tryz.f39 = some f_tremor_Point_valid := by kernel_rfl

/-! 40 (fumarole/tremor.Net).travel -/
def f_tremor_Net_travel_r0 : List Abs.Op := [
  ⟨some 4, none, false, .boxi (.t 0)⟩,
  ⟨some 7, none, false, .boxi (.t 3)⟩,
  ⟨some 8, none, false, .alcv [] [(.int .i64 0), (.int .i64 0)]⟩]

def f_tremor_Net_travel_r1 : List Abs.Op := [
  ⟨some 11, none, true, .fadr 0 (.t 4)⟩,
  ⟨some 12, none, true, .ld false 1 (.t 11)⟩,
  ⟨some 13, none, true, .mv (.t 1)⟩,
  ⟨some 14, none, true, .idxS 4 (.t 12) (.t 13)⟩,
  ⟨some 15, none, true, .fadr 0 (.t 14)⟩,
  ⟨some 16, none, true, .ld true 3 (.t 15)⟩,
  ⟨some 17, none, true, .ld true 3 (.t 7)⟩,
  ⟨some 18, none, true, .call false (.c (.fn i_tremor_Point_far [] [])) [(.t 16), (.t 17)]⟩,
  ⟨some 19, none, true, .mv (.t 2)⟩,
  ⟨some 20, none, true, .fadr 1 (.t 4)⟩,
  ⟨some 21, none, true, .idxA 2 2 (.t 20) (.t 19)⟩,
  ⟨some 22, none, true, .ld true 2 (.t 21)⟩,
  ⟨some 10, none, true, .alcv [] [(.int .i64 0), (.int .i64 0)]⟩,
  ⟨some 9, none, true, .mv (.t 18)⟩,
  ⟨none, none, false, .stv 10 [] 2 10 (.t 22)⟩]

def f_tremor_Net_travel_r2 : List Abs.Op := [
  ⟨some 23, none, false, .fadr 0 (.t 10)⟩,
  ⟨some 24, none, false, .ldv 10 false 1 23⟩,
  ⟨some 25, none, false, .mv (.t 9)⟩,
  ⟨some 26, none, false, .bin .mul (.t 24) (.t 25)⟩,
  ⟨some 27, none, false, .bin .quo (.t 26) (.c (.int .i64 1000))⟩,
  ⟨some 28, none, false, .fadr 1 (.t 10)⟩,
  ⟨some 29, none, false, .ldv 10 false 1 28⟩,
  ⟨some 30, none, false, .mv (.t 9)⟩,
  ⟨some 31, none, false, .bin .add (.t 30) (.c (.int .i64 1))⟩,
  ⟨some 32, none, false, .bin .mul (.t 29) (.t 31)⟩,
  ⟨some 33, none, false, .bin .add (.t 32) (.c (.int .i64 1000))⟩,
  ⟨some 34, none, false, .bin .sub (.t 33) (.c (.int .i64 1))⟩,
  ⟨some 35, none, false, .bin .quo (.t 34) (.c (.int .i64 1000))⟩,
  ⟨some 36, none, false, .bld [(.int .i64 0), (.int .i64 0)] [(0, 1, (.t 27)), (1, 1, (.t 35))]⟩,
  ⟨none, none, false, .stv 8 [] 2 8 (.t 36)⟩]

def a_tremor_Net_travel : Ann := ⟨[(2, [8]), (1, [8, 9, 10]), (0, [1, 2, 4, 7, 8])], [], [], [8, 10], [8, 10], [], [], [], []⟩
def f_tremor_Net_travel : Abs.Fn := ⟨4, [.v 8 true 2],
  (.seq (.reg [1, 2, 4, 7, 8] f_tremor_Net_travel_r0) (.seq (.reg [8, 9, 10] f_tremor_Net_travel_r1) (.seq (.reg [8] f_tremor_Net_travel_r2) .ret)))⟩

theorem e_tremor_Net_travel_r0 : type_of% f_tremor_Net_travel_r0.eq_1 := by_rfl f_tremor_Net_travel_r0.eq_1
theorem e_tremor_Net_travel_r1 : type_of% f_tremor_Net_travel_r1.eq_1 := by_rfl f_tremor_Net_travel_r1.eq_1
theorem e_tremor_Net_travel_r2 : type_of% f_tremor_Net_travel_r2.eq_1 := by_rfl f_tremor_Net_travel_r2.eq_1
theorem e_tremor_Net_travel : type_of% f_tremor_Net_travel.eq_1 := by_rfl f_tremor_Net_travel.eq_1
theorem ok_tremor_Net_travel : fnC Tryz.prog a_tremor_Net_travel Tryz.f40 = some f_tremor_Net_travel := by kernel_rfl

/-! 41 (fumarole/tremor.heard).check -/
def f_tremor_heard_check_r0 : List Abs.Op := [
  ⟨some 1, none, false, .boxi (.t 0)⟩,
  ⟨some 2, none, false, .mv (.c (.int .i64 0))⟩]

def f_tremor_heard_check_r1 : List Abs.Op := [
  ⟨some 4, none, false, .fadr 0 (.t 1)⟩,
  ⟨some 5, none, false, .ld true 12 (.t 4)⟩,
  ⟨some 6, none, false, .call false (.c (.fn i_tremor_Net_valid [] [])) [(.t 5)]⟩,
  ⟨some 7, none, false, .un .not (.t 6)⟩,
  ⟨some 3, none, false, .mv (.t 7)⟩]

def f_tremor_heard_check_r2 : List Abs.Op := [
  ⟨some 2, none, false, .mv (.c (.int .i64 1))⟩]

def f_tremor_heard_check_r3 : List Abs.Op := [
  ⟨some 9, none, false, .fadr 12 (.t 1)⟩,
  ⟨some 10, none, false, .ld false 1 (.t 9)⟩,
  ⟨some 11, none, false, .lenS (.t 10)⟩,
  ⟨some 12, none, false, .bin .gtr (.t 11) (.c (.int .i64 60))⟩,
  ⟨some 8, none, false, .mv (.t 12)⟩]

def f_tremor_heard_check_r4 : List Abs.Op := [
  ⟨some 2, none, false, .mv (.c (.int .i64 3))⟩]

def f_tremor_heard_check_r5 : List Abs.Op := [
  ⟨some 14, none, false, .fadr 12 (.t 1)⟩,
  ⟨some 15, none, false, .ld false 1 (.t 14)⟩,
  ⟨some 16, none, false, .lenS (.t 15)⟩,
  ⟨some 17, none, false, .bin .eql (.t 16) (.c (.int .i64 0))⟩,
  ⟨some 18, none, false, .mv (.t 17)⟩,
  ⟨some 19, some (18, false), false, .fadr 12 (.t 1)⟩,
  ⟨some 20, some (18, false), false, .ld false 1 (.t 19)⟩,
  ⟨some 21, some (18, false), false, .mkf i_tremor_heard_check_1 [] [(.t 1)]⟩,
  ⟨some 22, some (18, false), false, .call false (.c (.fn i_tremor_all_tremor_Pick [] [])) [(.t 20), (.t 21)]⟩,
  ⟨some 23, some (18, false), false, .un .not (.t 22)⟩,
  ⟨some 24, none, false, .pick (.t 18) (.c (.bool true)) (.t 23)⟩,
  ⟨some 13, none, false, .mv (.t 24)⟩]

def f_tremor_heard_check_r6 : List Abs.Op := [
  ⟨some 2, none, false, .mv (.c (.int .i64 1))⟩]

def f_tremor_heard_check_r7 : List Abs.Op := [
  ⟨some 2, none, false, .mv (.c (.int .i64 0))⟩]

def a_tremor_heard_check : Ann := ⟨[(7, [2]), (2, [2]), (4, [2]), (6, [2]), (5, [13]), (3, [1, 8]), (1, [1, 3]), (0, [1])], [], [], [], [], [], [], [], []⟩
def f_tremor_heard_check : Abs.Fn := ⟨1, [.t 2],
  (.seq (.reg [1] f_tremor_heard_check_r0) (.seq (.blk 0 (.seq (.reg [1, 3] f_tremor_heard_check_r1) (.ite (.t 3) (.seq (.reg [2] f_tremor_heard_check_r2) .ret) (.seq (.reg [1, 8] f_tremor_heard_check_r3) (.ite (.t 8) (.seq (.reg [2] f_tremor_heard_check_r4) .ret) (.seq (.reg [13] f_tremor_heard_check_r5) (.ite (.t 13) (.seq (.reg [2] f_tremor_heard_check_r6) .ret) .nop))))))) (.seq (.reg [2] f_tremor_heard_check_r7) .ret)))⟩

theorem e_tremor_heard_check_r0 : type_of% f_tremor_heard_check_r0.eq_1 := by_rfl f_tremor_heard_check_r0.eq_1
theorem e_tremor_heard_check_r1 : type_of% f_tremor_heard_check_r1.eq_1 := by_rfl f_tremor_heard_check_r1.eq_1
theorem e_tremor_heard_check_r2 : type_of% f_tremor_heard_check_r2.eq_1 := by_rfl f_tremor_heard_check_r2.eq_1
theorem e_tremor_heard_check_r3 : type_of% f_tremor_heard_check_r3.eq_1 := by_rfl f_tremor_heard_check_r3.eq_1
theorem e_tremor_heard_check_r4 : type_of% f_tremor_heard_check_r4.eq_1 := by_rfl f_tremor_heard_check_r4.eq_1
theorem e_tremor_heard_check_r5 : type_of% f_tremor_heard_check_r5.eq_1 := by_rfl f_tremor_heard_check_r5.eq_1
theorem e_tremor_heard_check_r6 : type_of% f_tremor_heard_check_r6.eq_1 := by_rfl f_tremor_heard_check_r6.eq_1
theorem e_tremor_heard_check_r7 : type_of% f_tremor_heard_check_r7.eq_1 := by_rfl f_tremor_heard_check_r7.eq_1
theorem e_tremor_heard_check : type_of% f_tremor_heard_check.eq_1 := by_rfl f_tremor_heard_check.eq_1
theorem ok_tremor_heard_check : fnC Tryz.prog a_tremor_heard_check Tryz.f41 = some f_tremor_heard_check := by kernel_rfl

/-! 42 (fumarole/tremor.heard).located -/
def f_tremor_heard_located_r0 : List Abs.Op := [
  ⟨some 2, none, false, .boxi (.t 0)⟩,
  ⟨some 3, none, false, .boxi (.t 1)⟩,
  ⟨some 4, none, false, .alc [(0, 5)] [.nils]⟩]

def f_tremor_heard_located_r1 : List Abs.Op := [
  ⟨some 8, none, false, .fadr 0 (.t 2)⟩,
  ⟨some 9, none, false, .ld true 12 (.t 8)⟩,
  ⟨some 10, none, false, .call false (.c (.fn i_tremor_Net_lattice [] [])) [(.t 9)]⟩]

def f_tremor_heard_located_r2 : List Abs.Op := [
  ⟨some 5, none, false, .alcv [] [(.int .i64 0), (.int .i64 0), (.int .i64 0)]⟩,
  ⟨none, none, false, .stv 5 [] 3 5 (.t 11)⟩]

def f_tremor_heard_located_r3 : List Abs.Op := [
  ⟨some 13, none, false, .ld true 13 (.t 2)⟩,
  ⟨some 14, none, false, .ldv 5 true 3 5⟩,
  ⟨some 15, none, false, .ld false 1 (.t 3)⟩,
  ⟨some 16, none, false, .call false (.c (.fn i_tremor_heard_spans [] [])) [(.t 13), (.t 14), (.t 15)]⟩,
  ⟨some 17, none, false, .call false (.c (.fn i_tremor_common [] [])) [(.t 16)]⟩,
  ⟨some 12, none, false, .mv (.t 17)⟩,
  ⟨some 18, none, false, .ext (.t 12) 0⟩,
  ⟨some 19, none, false, .ext (.t 12) 1⟩,
  ⟨some 6, none, false, .alcv [] [(.int .i64 0), (.int .i64 0)]⟩,
  ⟨none, none, false, .stv 6 [] 2 6 (.t 18)⟩,
  ⟨some 7, none, false, .mv (.t 19)⟩]

def f_tremor_heard_located_r4 : List Abs.Op := [
  ⟨some 20, none, false, .mv (.t 7)⟩]

def f_tremor_heard_located_r5 : List Abs.Op := [
  ⟨some 21, none, false, .ld false 1 (.t 4)⟩,
  ⟨some 22, none, false, .ldv 5 true 3 5⟩,
  ⟨some 23, none, false, .ldv 6 true 2 6⟩,
  ⟨some 24, none, false, .bld [(.int .i64 0), (.int .i64 0), (.int .i64 0), (.int .i64 0), (.int .i64 0)] [(0, 3, (.t 22)), (3, 2, (.t 23))]⟩,
  ⟨some 25, none, false, .bsi 1 5 [(.int .i64 0), (.int .i64 0), (.int .i64 0), (.int .i64 0), (.int .i64 0)] [(0, 5, (.t 24))]⟩,
  ⟨some 26, none, false, .app 5 40 (.t 21) (.t 25)⟩,
  ⟨none, none, false, .st [(0, 5)] 1 (.t 4) (.t 26)⟩]

def f_tremor_heard_located_a6 : Abs.Cmd :=
  (.reg [2, 3, 4, 5] f_tremor_heard_located_r2)

def f_tremor_heard_located_b6 : Abs.Cmd :=
  (.blk 1 (.seq (.reg [4, 5, 6, 7] f_tremor_heard_located_r3) (.seq (.reg [4, 5, 6, 20] f_tremor_heard_located_r4) (.ite (.t 20) (.reg [] f_tremor_heard_located_r5) .nop))))

def f_tremor_heard_located_r7 : List Abs.Op := [
  ⟨some 27, none, false, .ld false 1 (.t 4)⟩,
  ⟨none, none, false, .st [(0, 5)] 1 (.t 4) (.t 27)⟩]

def a_tremor_heard_located : Ann := ⟨[(6, [4]), (5, []), (4, [4, 5, 6, 20]), (3, [4, 5, 6, 7]), (2, [2, 3, 4, 5]), (1, [2, 3, 4, 10]), (0, [2, 3, 4])], [(0, [2, 3, 4])], [], [4, 5, 6], [5, 6], [(2, [(0, 5)]), (5006, [(0, 5)]), (6001, [(0, 5)])], [], [], []⟩
def f_tremor_heard_located : Abs.Fn := ⟨2, [.c 4 false 1],
  (.seq (.reg [2, 3, 4] f_tremor_heard_located_r0) (.seq (.seq (.reg [2, 3, 4, 10] f_tremor_heard_located_r1) (.blk 0 (.rngf [2, 3, 4] (.t 10) [11] f_tremor_heard_located_a6 f_tremor_heard_located_b6))) (.seq (.reg [4] f_tremor_heard_located_r7) .ret)))⟩

theorem e_tremor_heard_located_r0 : type_of% f_tremor_heard_located_r0.eq_1 := by_rfl f_tremor_heard_located_r0.eq_1
theorem e_tremor_heard_located_r1 : type_of% f_tremor_heard_located_r1.eq_1 := by_rfl f_tremor_heard_located_r1.eq_1
theorem e_tremor_heard_located_r2 : type_of% f_tremor_heard_located_r2.eq_1 := by_rfl f_tremor_heard_located_r2.eq_1
theorem e_tremor_heard_located_r3 : type_of% f_tremor_heard_located_r3.eq_1 := by_rfl f_tremor_heard_located_r3.eq_1
theorem e_tremor_heard_located_r4 : type_of% f_tremor_heard_located_r4.eq_1 := by_rfl f_tremor_heard_located_r4.eq_1
theorem e_tremor_heard_located_r5 : type_of% f_tremor_heard_located_r5.eq_1 := by_rfl f_tremor_heard_located_r5.eq_1
theorem e_tremor_heard_located_a6 : type_of% f_tremor_heard_located_a6.eq_1 := by_rfl f_tremor_heard_located_a6.eq_1
theorem e_tremor_heard_located_b6 : type_of% f_tremor_heard_located_b6.eq_1 := by_rfl f_tremor_heard_located_b6.eq_1
theorem e_tremor_heard_located_r7 : type_of% f_tremor_heard_located_r7.eq_1 := by_rfl f_tremor_heard_located_r7.eq_1
theorem e_tremor_heard_located : type_of% f_tremor_heard_located.eq_1 := by_rfl f_tremor_heard_located.eq_1
theorem ok_tremor_heard_located : fnC Tryz.prog a_tremor_heard_located Tryz.f42 = some f_tremor_heard_located := by kernel_rfl

/-! 43 (fumarole/tremor.Scale).valid -/
def f_tremor_Scale_valid_r0 : List Abs.Op := [
  ⟨some 1, none, false, .boxi (.t 0)⟩,
  ⟨some 2, none, false, .mv (.c (.bool false))⟩]

def f_tremor_Scale_valid_r1 : List Abs.Op := [
  ⟨some 3, none, false, .fadr 0 (.t 1)⟩,
  ⟨some 4, none, false, .ld false 1 (.t 3)⟩,
  ⟨some 5, none, false, .lenS (.t 4)⟩,
  ⟨some 6, none, false, .call false (.c (.fn i_tremor_within [] [])) [(.t 5), (.c (.int .i64 1)), (.c (.int .i64 60))]⟩,
  ⟨some 7, none, false, .mv (.t 6)⟩,
  ⟨some 8, some (7, true), false, .fadr 0 (.t 1)⟩,
  ⟨some 9, some (7, true), false, .ld false 1 (.t 8)⟩,
  ⟨some 10, some (7, true), false, .call false (.c (.fn i_tremor_all_int [] [])) [(.t 9), (.c (.fn i_tremor_Scale_valid_1 [] []))]⟩,
  ⟨some 11, none, false, .pick (.t 7) (.t 10) (.c (.bool false))⟩,
  ⟨some 12, none, false, .mv (.t 11)⟩,
  ⟨some 13, some (12, true), false, .fadr 0 (.t 1)⟩,
  ⟨some 14, some (12, true), false, .ld false 1 (.t 13)⟩,
  ⟨some 15, some (12, true), false, .call false (.c (.fn i_tremor_rising_int [] [])) [(.t 14), (.c (.fn i_tremor_Scale_valid_2 [] []))]⟩,
  ⟨some 16, none, false, .pick (.t 12) (.t 15) (.c (.bool false))⟩,
  ⟨some 17, none, false, .mv (.t 16)⟩,
  ⟨some 18, some (17, true), false, .fadr 1 (.t 1)⟩,
  ⟨some 19, some (17, true), false, .ld false 1 (.t 18)⟩,
  ⟨some 20, some (17, true), false, .lenS (.t 19)⟩,
  ⟨some 21, some (17, true), false, .call false (.c (.fn i_tremor_within [] [])) [(.t 20), (.c (.int .i64 1)), (.c (.int .i64 20))]⟩,
  ⟨some 22, none, false, .pick (.t 17) (.t 21) (.c (.bool false))⟩,
  ⟨some 23, none, false, .mv (.t 22)⟩,
  ⟨some 24, some (23, true), false, .fadr 1 (.t 1)⟩,
  ⟨some 25, some (23, true), false, .ld false 1 (.t 24)⟩,
  ⟨some 26, some (23, true), false, .idxS 2 (.t 25) (.c (.int .i64 0))⟩,
  ⟨some 27, some (23, true), false, .fadr 0 (.t 26)⟩,
  ⟨some 28, some (23, true), false, .ld false 1 (.t 27)⟩,
  ⟨some 29, some (23, true), false, .bin .eql (.t 28) (.c (.int .i64 0))⟩,
  ⟨some 30, none, false, .pick (.t 23) (.t 29) (.c (.bool false))⟩,
  ⟨some 31, none, false, .mv (.t 30)⟩,
  ⟨some 32, some (31, true), false, .fadr 1 (.t 1)⟩,
  ⟨some 33, some (31, true), false, .ld false 1 (.t 32)⟩,
  ⟨some 34, some (31, true), false, .call false (.c (.fn i_tremor_all_tremor_Row [] [])) [(.t 33), (.c (.fn i_tremor_Scale_valid_3 [] []))]⟩,
  ⟨some 35, none, false, .pick (.t 31) (.t 34) (.c (.bool false))⟩,
  ⟨some 36, none, false, .mv (.t 35)⟩,
  ⟨some 37, some (36, true), false, .fadr 1 (.t 1)⟩,
  ⟨some 38, some (36, true), false, .ld false 1 (.t 37)⟩,
  ⟨some 39, some (36, true), false, .call false (.c (.fn i_tremor_rising_tremor_Row [] [])) [(.t 38), (.c (.fn i_tremor_Scale_valid_4 [] []))]⟩,
  ⟨some 40, none, false, .pick (.t 36) (.t 39) (.c (.bool false))⟩,
  ⟨some 2, none, false, .mv (.t 40)⟩]

def a_tremor_Scale_valid : Ann := ⟨[(1, [2]), (0, [1])], [], [], [], [], [], [], [], []⟩
def f_tremor_Scale_valid : Abs.Fn := ⟨1, [.t 2],
  (.seq (.reg [1] f_tremor_Scale_valid_r0) (.seq (.reg [2] f_tremor_Scale_valid_r1) .ret))⟩

theorem e_tremor_Scale_valid_r0 : type_of% f_tremor_Scale_valid_r0.eq_1 := by_rfl f_tremor_Scale_valid_r0.eq_1
theorem e_tremor_Scale_valid_r1 : type_of% f_tremor_Scale_valid_r1.eq_1 := by_rfl f_tremor_Scale_valid_r1.eq_1
theorem e_tremor_Scale_valid : type_of% f_tremor_Scale_valid.eq_1 := by_rfl f_tremor_Scale_valid.eq_1
theorem ok_tremor_Scale_valid : fnC Tryz.prog a_tremor_Scale_valid Tryz.f43 = some f_tremor_Scale_valid := by kernel_rfl

/-! 44 fumarole/tremor.all[fumarole/tremor.Reading] -/
def f_tremor_all_tremor_Reading_r0 : List Abs.Op := [
  ⟨some 3, none, false, .boxi (.t 1)⟩,
  ⟨some 4, none, false, .mv (.c (.bool false))⟩]

def f_tremor_all_tremor_Reading_r1 : List Abs.Op := [
  ⟨some 5, none, false, .mv (.t 0)⟩,
  ⟨some 6, none, false, .mkf i_tremor_all_tremor_Reading_1 [] [(.t 3)]⟩,
  ⟨some 7, none, false, .call false (.c (.fn i_slices_ContainsFunc_tremor_Reading [] [])) [(.t 5), (.t 6)]⟩,
  ⟨some 8, none, false, .un .not (.t 7)⟩,
  ⟨some 4, none, false, .mv (.t 8)⟩]

def a_tremor_all_tremor_Reading : Ann := ⟨[(1, [4]), (0, [0, 3])], [], [], [], [], [], [], [], []⟩
def f_tremor_all_tremor_Reading : Abs.Fn := ⟨2, [.t 4],
  (.seq (.reg [0, 3] f_tremor_all_tremor_Reading_r0) (.seq (.reg [4] f_tremor_all_tremor_Reading_r1) .ret))⟩

theorem e_tremor_all_tremor_Reading_r0 : type_of% f_tremor_all_tremor_Reading_r0.eq_1 := by_rfl f_tremor_all_tremor_Reading_r0.eq_1
theorem e_tremor_all_tremor_Reading_r1 : type_of% f_tremor_all_tremor_Reading_r1.eq_1 := by_rfl f_tremor_all_tremor_Reading_r1.eq_1
theorem e_tremor_all_tremor_Reading : type_of% f_tremor_all_tremor_Reading.eq_1 := by_rfl f_tremor_all_tremor_Reading.eq_1
theorem ok_tremor_all_tremor_Reading : fnC Tryz.prog a_tremor_all_tremor_Reading Tryz.f44 = some f_tremor_all_tremor_Reading := by kernel_rfl

/-! 45 fumarole/tremor.Magnitude$1 -/
def f_tremor_Magnitude_1_r0 : List Abs.Op := [
  ⟨some 2, none, false, .boxi (.t 0)⟩,
  ⟨some 3, none, false, .mv (.c (.bool false))⟩]

def f_tremor_Magnitude_1_r1 : List Abs.Op := [
  ⟨some 4, none, false, .ld true 12 (.t 1)⟩,
  ⟨some 5, none, false, .fadr 0 (.t 2)⟩,
  ⟨some 6, none, false, .ld false 1 (.t 5)⟩,
  ⟨some 7, none, false, .call false (.c (.fn i_tremor_Net_has [] [])) [(.t 4), (.t 6)]⟩,
  ⟨some 8, none, false, .mv (.t 7)⟩,
  ⟨some 9, some (8, true), false, .fadr 1 (.t 2)⟩,
  ⟨some 10, some (8, true), false, .ld false 1 (.t 9)⟩,
  ⟨some 11, some (8, true), false, .call false (.c (.fn i_tremor_within [] [])) [(.t 10), (.c (.int .i64 0)), (.c (.int .i64 1000000000))]⟩,
  ⟨some 12, none, false, .pick (.t 8) (.t 11) (.c (.bool false))⟩,
  ⟨some 3, none, false, .mv (.t 12)⟩]

def a_tremor_Magnitude_1 : Ann := ⟨[(1, [3]), (0, [1, 2])], [], [], [], [], [], [], [], []⟩
def f_tremor_Magnitude_1 : Abs.Fn := ⟨2, [.t 3],
  (.seq (.reg [1, 2] f_tremor_Magnitude_1_r0) (.seq (.reg [3] f_tremor_Magnitude_1_r1) .ret))⟩

theorem e_tremor_Magnitude_1_r0 : type_of% f_tremor_Magnitude_1_r0.eq_1 := by_rfl f_tremor_Magnitude_1_r0.eq_1
theorem e_tremor_Magnitude_1_r1 : type_of% f_tremor_Magnitude_1_r1.eq_1 := by_rfl f_tremor_Magnitude_1_r1.eq_1
theorem e_tremor_Magnitude_1 : type_of% f_tremor_Magnitude_1.eq_1 := by_rfl f_tremor_Magnitude_1.eq_1
theorem ok_tremor_Magnitude_1 : fnC Tryz.prog a_tremor_Magnitude_1 Tryz.f45 = some f_tremor_Magnitude_1 := by kernel_rfl

/-! 46 (fumarole/tremor.Scale).of -/
def f_tremor_Scale_of_r0 : List Abs.Op := [
  ⟨some 3, none, false, .boxi (.t 0)⟩,
  ⟨some 6, none, false, .mv (.c (.int .i64 0))⟩]

def f_tremor_Scale_of_r1 : List Abs.Op := [
  ⟨some 7, none, false, .mv (.c (.int .i64 0))⟩]

def f_tremor_Scale_of_r2 : List Abs.Op := [
  ⟨some 11, none, false, .mv (.t 7)⟩,
  ⟨some 12, none, false, .fadr 0 (.t 3)⟩,
  ⟨some 13, none, false, .ld false 1 (.t 12)⟩,
  ⟨some 14, none, false, .lenS (.t 13)⟩,
  ⟨some 15, none, false, .bin .lss (.t 11) (.t 14)⟩,
  ⟨some 16, none, false, .mv (.t 15)⟩,
  ⟨some 17, some (16, true), false, .fadr 0 (.t 3)⟩,
  ⟨some 18, some (16, true), false, .ld false 1 (.t 17)⟩,
  ⟨some 19, some (16, true), false, .mv (.t 7)⟩,
  ⟨some 20, some (16, true), false, .idxS 1 (.t 18) (.t 19)⟩,
  ⟨some 21, some (16, true), false, .ld false 1 (.t 20)⟩,
  ⟨some 22, some (16, true), false, .mv (.t 1)⟩,
  ⟨some 23, some (16, true), false, .bin .leq (.t 21) (.t 22)⟩,
  ⟨some 24, none, false, .pick (.t 16) (.t 23) (.c (.bool false))⟩]

def f_tremor_Scale_of_r3 : List Abs.Op := [
  ⟨some 25, none, false, .mv (.t 7)⟩,
  ⟨some 26, none, false, .bin .add (.t 25) (.c (.int .i64 1))⟩,
  ⟨some 7, none, false, .mv (.t 26)⟩]

def f_tremor_Scale_of_l4 : Abs.Cmd :=
  (.seq (.seq (.reg [1, 2, 3, 7, 24] f_tremor_Scale_of_r2) (.ite (.t 24) .nop (.exit 0))) (.blk 1 (.reg [1, 2, 3, 7] f_tremor_Scale_of_r3)))

def f_tremor_Scale_of_r5 : List Abs.Op := [
  ⟨some 8, none, false, .mv (.c (.int .i64 0))⟩]

def f_tremor_Scale_of_r6 : List Abs.Op := [
  ⟨some 27, none, false, .fadr 1 (.t 3)⟩,
  ⟨some 28, none, false, .ld false 1 (.t 27)⟩,
  ⟨some 29, none, false, .lenS (.t 28)⟩,
  ⟨some 30, none, false, .mv (.c (.int .i64 0))⟩]

def f_tremor_Scale_of_r7 : List Abs.Op := [
  ⟨some 31, none, false, .bin .lss (.t 30) (.t 29)⟩]

def f_tremor_Scale_of_r8 : List Abs.Op := [
  ⟨some 32, none, false, .idxS 2 (.t 28) (.t 30)⟩,
  ⟨some 33, none, false, .ld true 2 (.t 32)⟩,
  ⟨some 10, none, false, .alcv [] [(.int .i64 0), (.int .i64 0)]⟩,
  ⟨none, none, false, .stv 10 [] 2 10 (.t 33)⟩]

def f_tremor_Scale_of_r9 : List Abs.Op := [
  ⟨some 34, none, false, .fadr 0 (.t 10)⟩,
  ⟨some 35, none, false, .ldv 10 false 1 34⟩,
  ⟨some 36, none, false, .mv (.t 2)⟩,
  ⟨some 37, none, false, .bin .leq (.t 35) (.t 36)⟩]

def f_tremor_Scale_of_r10 : List Abs.Op := [
  ⟨some 38, none, false, .fadr 1 (.t 10)⟩,
  ⟨some 39, none, false, .ldv 10 false 1 38⟩,
  ⟨some 8, none, false, .mv (.t 39)⟩]

def f_tremor_Scale_of_r11 : List Abs.Op := [
  ⟨some 40, none, false, .bin .add (.t 30) (.c (.int .i64 1))⟩,
  ⟨some 30, none, false, .mv (.t 40)⟩]

def f_tremor_Scale_of_l12 : Abs.Cmd :=
  (.seq (.reg [2, 7, 8, 28, 29, 30, 31] f_tremor_Scale_of_r7) (.seq (.ite (.t 31) .nop (.exit 2)) (.seq (.blk 3 (.seq (.reg [2, 7, 8, 10, 28, 29, 30] f_tremor_Scale_of_r8) (.seq (.reg [2, 7, 8, 10, 28, 29, 30, 37] f_tremor_Scale_of_r9) (.ite (.t 37) (.reg [2, 7, 8, 28, 29, 30] f_tremor_Scale_of_r10) .nop)))) (.reg [2, 7, 8, 28, 29, 30] f_tremor_Scale_of_r11))))

def f_tremor_Scale_of_r13 : List Abs.Op := [
  ⟨some 41, none, false, .mv (.t 7)⟩,
  ⟨some 42, none, false, .mv (.t 8)⟩,
  ⟨some 43, none, false, .bin .add (.t 41) (.t 42)⟩,
  ⟨some 6, none, false, .mv (.t 43)⟩]

def a_tremor_Scale_of : Ann := ⟨[(11, [6]), (10, [2, 7, 8, 28, 29, 30]), (9, [2, 7, 8, 28, 29, 30]), (8, [2, 7, 8, 10, 28, 29, 30, 37]), (7, [2, 7, 8, 10, 28, 29, 30]), (6, [2, 7, 8, 28, 29, 30, 31]), (5, [2, 7, 8, 28, 29, 30]), (4, [2, 3, 7, 8]), (3, [1, 2, 3, 7]), (2, [1, 2, 3, 7, 24]), (1, [1, 2, 3, 7]), (0, [1, 2, 3])], [(2, [2, 7, 8, 28, 29, 30]), (0, [1, 2, 3, 7])], [], [10], [10], [], [], [], []⟩
def f_tremor_Scale_of : Abs.Fn := ⟨3, [.t 6],
  (.seq (.reg [1, 2, 3] f_tremor_Scale_of_r0) (.seq (.reg [1, 2, 3, 7] f_tremor_Scale_of_r1) (.seq (.blk 0 (.loop [1, 2, 3, 7] false f_tremor_Scale_of_l4)) (.seq (.reg [2, 3, 7, 8] f_tremor_Scale_of_r5) (.seq (.seq (.reg [2, 7, 8, 28, 29, 30] f_tremor_Scale_of_r6) (.blk 2 (.loop [2, 7, 8, 28, 29, 30] false f_tremor_Scale_of_l12))) (.seq (.reg [6] f_tremor_Scale_of_r13) .ret))))))⟩

theorem e_tremor_Scale_of_r0 : type_of% f_tremor_Scale_of_r0.eq_1 := by_rfl f_tremor_Scale_of_r0.eq_1
theorem e_tremor_Scale_of_r1 : type_of% f_tremor_Scale_of_r1.eq_1 := by_rfl f_tremor_Scale_of_r1.eq_1
theorem e_tremor_Scale_of_r2 : type_of% f_tremor_Scale_of_r2.eq_1 := by_rfl f_tremor_Scale_of_r2.eq_1
theorem e_tremor_Scale_of_r3 : type_of% f_tremor_Scale_of_r3.eq_1 := by_rfl f_tremor_Scale_of_r3.eq_1
theorem e_tremor_Scale_of_l4 : type_of% f_tremor_Scale_of_l4.eq_1 := by_rfl f_tremor_Scale_of_l4.eq_1
theorem e_tremor_Scale_of_r5 : type_of% f_tremor_Scale_of_r5.eq_1 := by_rfl f_tremor_Scale_of_r5.eq_1
theorem e_tremor_Scale_of_r6 : type_of% f_tremor_Scale_of_r6.eq_1 := by_rfl f_tremor_Scale_of_r6.eq_1
theorem e_tremor_Scale_of_r7 : type_of% f_tremor_Scale_of_r7.eq_1 := by_rfl f_tremor_Scale_of_r7.eq_1
theorem e_tremor_Scale_of_r8 : type_of% f_tremor_Scale_of_r8.eq_1 := by_rfl f_tremor_Scale_of_r8.eq_1
theorem e_tremor_Scale_of_r9 : type_of% f_tremor_Scale_of_r9.eq_1 := by_rfl f_tremor_Scale_of_r9.eq_1
theorem e_tremor_Scale_of_r10 : type_of% f_tremor_Scale_of_r10.eq_1 := by_rfl f_tremor_Scale_of_r10.eq_1
theorem e_tremor_Scale_of_r11 : type_of% f_tremor_Scale_of_r11.eq_1 := by_rfl f_tremor_Scale_of_r11.eq_1
theorem e_tremor_Scale_of_l12 : type_of% f_tremor_Scale_of_l12.eq_1 := by_rfl f_tremor_Scale_of_l12.eq_1
theorem e_tremor_Scale_of_r13 : type_of% f_tremor_Scale_of_r13.eq_1 := by_rfl f_tremor_Scale_of_r13.eq_1
theorem e_tremor_Scale_of : type_of% f_tremor_Scale_of.eq_1 := by_rfl f_tremor_Scale_of.eq_1
theorem ok_tremor_Scale_of : fnC Tryz.prog a_tremor_Scale_of Tryz.f46 = some f_tremor_Scale_of := by kernel_rfl

/-! 47 (fumarole/tremor.Point).far -/
def f_tremor_Point_far_r0 : List Abs.Op := [
  ⟨some 2, none, false, .boxi (.t 0)⟩,
  ⟨some 3, none, false, .boxi (.t 1)⟩,
  ⟨some 4, none, false, .mv (.c (.int .i64 0))⟩]

def f_tremor_Point_far_r1 : List Abs.Op := [
  ⟨some 12, none, true, .fadr 0 (.t 2)⟩,
  ⟨some 13, none, true, .ld false 1 (.t 12)⟩,
  ⟨some 14, none, true, .fadr 0 (.t 3)⟩,
  ⟨some 15, none, true, .ld false 1 (.t 14)⟩,
  ⟨some 16, none, true, .bin .sub (.t 13) (.t 15)⟩,
  ⟨some 17, none, true, .fadr 1 (.t 2)⟩,
  ⟨some 18, none, true, .ld false 1 (.t 17)⟩,
  ⟨some 19, none, true, .fadr 1 (.t 3)⟩,
  ⟨some 20, none, true, .ld false 1 (.t 19)⟩,
  ⟨some 21, none, true, .bin .sub (.t 18) (.t 20)⟩,
  ⟨some 22, none, true, .fadr 2 (.t 2)⟩,
  ⟨some 23, none, true, .ld false 1 (.t 22)⟩,
  ⟨some 24, none, true, .fadr 2 (.t 3)⟩,
  ⟨some 25, none, true, .ld false 1 (.t 24)⟩,
  ⟨some 26, none, true, .bin .sub (.t 23) (.t 25)⟩,
  ⟨some 5, none, true, .mv (.t 16)⟩,
  ⟨some 6, none, true, .mv (.t 21)⟩,
  ⟨some 7, none, false, .mv (.t 26)⟩]

def f_tremor_Point_far_r2 : List Abs.Op := [
  ⟨some 27, none, false, .mv (.t 5)⟩,
  ⟨some 28, none, false, .mv (.t 5)⟩,
  ⟨some 29, none, false, .bin .mul (.t 27) (.t 28)⟩,
  ⟨some 30, none, false, .mv (.t 6)⟩,
  ⟨some 31, none, false, .mv (.t 6)⟩,
  ⟨some 32, none, false, .bin .mul (.t 30) (.t 31)⟩,
  ⟨some 33, none, false, .bin .add (.t 29) (.t 32)⟩,
  ⟨some 34, none, false, .mv (.t 7)⟩,
  ⟨some 35, none, false, .mv (.t 7)⟩,
  ⟨some 36, none, false, .bin .mul (.t 34) (.t 35)⟩,
  ⟨some 37, none, false, .bin .add (.t 33) (.t 36)⟩,
  ⟨some 8, none, false, .mv (.t 37)⟩]

def f_tremor_Point_far_r3 : List Abs.Op := [
  ⟨some 9, none, false, .mv (.c (.int .i64 0))⟩,
  ⟨some 10, none, false, .mv (.c (.int .i64 80000))⟩]

def f_tremor_Point_far_r4 : List Abs.Op := [
  ⟨some 38, none, false, .mv (.t 9)⟩,
  ⟨some 39, none, false, .mv (.t 10)⟩,
  ⟨some 40, none, false, .bin .lss (.t 38) (.t 39)⟩]

def f_tremor_Point_far_r5 : List Abs.Op := [
  ⟨some 41, none, false, .mv (.t 9)⟩,
  ⟨some 42, none, false, .mv (.t 10)⟩,
  ⟨some 43, none, false, .bin .add (.t 41) (.t 42)⟩,
  ⟨some 44, none, false, .bin .add (.t 43) (.c (.int .i64 1))⟩,
  ⟨some 45, none, false, .bin .quo (.t 44) (.c (.int .i64 2))⟩,
  ⟨some 11, none, false, .mv (.t 45)⟩]

def f_tremor_Point_far_r6 : List Abs.Op := [
  ⟨some 46, none, false, .mv (.t 11)⟩,
  ⟨some 47, none, false, .mv (.t 11)⟩,
  ⟨some 48, none, false, .bin .mul (.t 46) (.t 47)⟩,
  ⟨some 49, none, false, .mv (.t 8)⟩,
  ⟨some 50, none, false, .bin .gtr (.t 48) (.t 49)⟩]

def f_tremor_Point_far_r7 : List Abs.Op := [
  ⟨some 51, none, false, .mv (.t 11)⟩,
  ⟨some 52, none, false, .bin .sub (.t 51) (.c (.int .i64 1))⟩,
  ⟨some 10, none, false, .mv (.t 52)⟩]

def f_tremor_Point_far_r8 : List Abs.Op := [
  ⟨some 53, none, false, .mv (.t 11)⟩,
  ⟨some 9, none, false, .mv (.t 53)⟩]

def f_tremor_Point_far_l9 : Abs.Cmd :=
  (.seq (.seq (.reg [8, 9, 10, 40] f_tremor_Point_far_r4) (.ite (.t 40) .nop (.exit 0))) (.blk 1 (.seq (.reg [8, 9, 10, 11] f_tremor_Point_far_r5) (.seq (.reg [8, 9, 10, 11, 50] f_tremor_Point_far_r6) (.ite (.t 50) (.reg [8, 9, 10] f_tremor_Point_far_r7) (.reg [8, 9, 10] f_tremor_Point_far_r8))))))

def f_tremor_Point_far_r10 : List Abs.Op := [
  ⟨some 54, none, false, .mv (.t 9)⟩,
  ⟨some 4, none, false, .mv (.t 54)⟩]

def a_tremor_Point_far : Ann := ⟨[(9, [4]), (7, [8, 9, 10]), (8, [8, 9, 10]), (6, [8, 9, 10, 11, 50]), (5, [8, 9, 10, 11]), (4, [8, 9, 10, 40]), (3, [8, 9, 10]), (2, [8]), (1, [5, 6, 7]), (0, [2, 3])], [(0, [8, 9, 10])], [], [], [], [], [], [], []⟩
def f_tremor_Point_far : Abs.Fn := ⟨2, [.t 4],
  (.seq (.reg [2, 3] f_tremor_Point_far_r0) (.seq (.reg [5, 6, 7] f_tremor_Point_far_r1) (.seq (.reg [8] f_tremor_Point_far_r2) (.seq (.reg [8, 9, 10] f_tremor_Point_far_r3) (.seq (.blk 0 (.loop [8, 9, 10] false f_tremor_Point_far_l9)) (.seq (.reg [4] f_tremor_Point_far_r10) .ret))))))⟩

theorem e_tremor_Point_far_r0 : type_of% f_tremor_Point_far_r0.eq_1 := by_rfl f_tremor_Point_far_r0.eq_1
theorem e_tremor_Point_far_r1 : type_of% f_tremor_Point_far_r1.eq_1 := by_rfl f_tremor_Point_far_r1.eq_1
theorem e_tremor_Point_far_r2 : type_of% f_tremor_Point_far_r2.eq_1 := by_rfl f_tremor_Point_far_r2.eq_1
theorem e_tremor_Point_far_r3 : type_of% f_tremor_Point_far_r3.eq_1 := by_rfl f_tremor_Point_far_r3.eq_1
theorem e_tremor_Point_far_r4 : type_of% f_tremor_Point_far_r4.eq_1 := by_rfl f_tremor_Point_far_r4.eq_1
theorem e_tremor_Point_far_r5 : type_of% f_tremor_Point_far_r5.eq_1 := by_rfl f_tremor_Point_far_r5.eq_1
theorem e_tremor_Point_far_r6 : type_of% f_tremor_Point_far_r6.eq_1 := by_rfl f_tremor_Point_far_r6.eq_1
theorem e_tremor_Point_far_r7 : type_of% f_tremor_Point_far_r7.eq_1 := by_rfl f_tremor_Point_far_r7.eq_1
theorem e_tremor_Point_far_r8 : type_of% f_tremor_Point_far_r8.eq_1 := by_rfl f_tremor_Point_far_r8.eq_1
theorem e_tremor_Point_far_l9 : type_of% f_tremor_Point_far_l9.eq_1 := by_rfl f_tremor_Point_far_l9.eq_1
theorem e_tremor_Point_far_r10 : type_of% f_tremor_Point_far_r10.eq_1 := by_rfl f_tremor_Point_far_r10.eq_1
theorem e_tremor_Point_far : type_of% f_tremor_Point_far.eq_1 := by_rfl f_tremor_Point_far.eq_1
theorem ok_tremor_Point_far : fnC Tryz.prog a_tremor_Point_far Tryz.f47 = some f_tremor_Point_far := by kernel_rfl

/-! 48 (fumarole/tremor.Bet).valid -/
def f_tremor_Bet_valid_r0 : List Abs.Op := [
  ⟨some 1, none, false, .boxi (.t 0)⟩,
  ⟨some 2, none, false, .mv (.c (.bool false))⟩]

def f_tremor_Bet_valid_r1 : List Abs.Op := [
  ⟨some 3, none, false, .fadr 1 (.t 1)⟩,
  ⟨some 4, none, false, .ld false 1 (.t 3)⟩,
  ⟨some 5, none, false, .call false (.c (.fn i_tremor_within [] [])) [(.t 4), (.c (.int .i64 2)), (.c (.int .i64 1000))]⟩,
  ⟨some 6, none, false, .mv (.t 5)⟩,
  ⟨some 7, some (6, true), false, .fadr 0 (.t 1)⟩,
  ⟨some 8, some (6, true), false, .ld false 1 (.t 7)⟩,
  ⟨some 9, some (6, true), false, .fadr 1 (.t 1)⟩,
  ⟨some 10, some (6, true), false, .ld false 1 (.t 9)⟩,
  ⟨some 11, some (6, true), false, .bin .sub (.t 10) (.c (.int .i64 1))⟩,
  ⟨some 12, some (6, true), false, .call false (.c (.fn i_tremor_within [] [])) [(.t 8), (.c (.int .i64 1)), (.t 11)]⟩,
  ⟨some 13, none, false, .pick (.t 6) (.t 12) (.c (.bool false))⟩,
  ⟨some 14, none, false, .mv (.t 13)⟩,
  ⟨some 15, some (14, true), false, .fadr 3 (.t 1)⟩,
  ⟨some 16, some (14, true), false, .ld false 1 (.t 15)⟩,
  ⟨some 17, some (14, true), false, .call false (.c (.fn i_tremor_within [] [])) [(.t 16), (.c (.int .i64 1)), (.c (.int .i64 1000))]⟩,
  ⟨some 18, none, false, .pick (.t 14) (.t 17) (.c (.bool false))⟩,
  ⟨some 19, none, false, .mv (.t 18)⟩,
  ⟨some 20, some (19, true), false, .fadr 2 (.t 1)⟩,
  ⟨some 21, some (19, true), false, .ld false 1 (.t 20)⟩,
  ⟨some 22, some (19, true), false, .fadr 3 (.t 1)⟩,
  ⟨some 23, some (19, true), false, .ld false 1 (.t 22)⟩,
  ⟨some 24, some (19, true), false, .call false (.c (.fn i_tremor_within [] [])) [(.t 21), (.c (.int .i64 0)), (.t 23)]⟩,
  ⟨some 25, none, false, .pick (.t 19) (.t 24) (.c (.bool false))⟩,
  ⟨some 26, none, false, .mv (.t 25)⟩,
  ⟨some 27, some (26, true), false, .fadr 4 (.t 1)⟩,
  ⟨some 28, some (26, true), false, .ld false 1 (.t 27)⟩,
  ⟨some 29, some (26, true), false, .call false (.c (.fn i_tremor_within [] [])) [(.t 28), (.c (.int .i64 2)), (.c (.int .i64 1000))]⟩,
  ⟨some 30, none, false, .pick (.t 26) (.t 29) (.c (.bool false))⟩,
  ⟨some 2, none, false, .mv (.t 30)⟩]

def a_tremor_Bet_valid : Ann := ⟨[(1, [2]), (0, [1])], [], [], [], [], [], [], [], []⟩
def f_tremor_Bet_valid : Abs.Fn := ⟨1, [.t 2],
  (.seq (.reg [1] f_tremor_Bet_valid_r0) (.seq (.reg [2] f_tremor_Bet_valid_r1) .ret))⟩

theorem e_tremor_Bet_valid_r0 : type_of% f_tremor_Bet_valid_r0.eq_1 := by_rfl f_tremor_Bet_valid_r0.eq_1
theorem e_tremor_Bet_valid_r1 : type_of% f_tremor_Bet_valid_r1.eq_1 := by_rfl f_tremor_Bet_valid_r1.eq_1
theorem e_tremor_Bet_valid : type_of% f_tremor_Bet_valid.eq_1 := by_rfl f_tremor_Bet_valid.eq_1
theorem ok_tremor_Bet_valid : fnC Tryz.prog a_tremor_Bet_valid Tryz.f48 = some f_tremor_Bet_valid := by kernel_rfl

/-! 49 (fumarole/tremor.Bet).going -/
def f_tremor_Bet_going_r0 : List Abs.Op := [
  ⟨some 1, none, false, .boxi (.t 0)⟩,
  ⟨some 2, none, false, .mv (.c .nilf)⟩]

def f_tremor_Bet_going_r1 : List Abs.Op := [
  ⟨some 3, none, false, .alc [] [(.int .i64 0)]⟩,
  ⟨none, none, false, .st [] 1 (.t 3) (.c (.int .i64 1000000))⟩]

def f_tremor_Bet_going_r2 : List Abs.Op := [
  ⟨some 4, none, false, .mkf i_tremor_Bet_going_1 [] [(.t 3), (.t 1)]⟩,
  ⟨some 2, none, false, .mv (.t 4)⟩]

def a_tremor_Bet_going : Ann := ⟨[(2, [2]), (1, [1, 3]), (0, [1])], [], [], [3], [], [], [], [], []⟩
def f_tremor_Bet_going : Abs.Fn := ⟨1, [.t 2],
  (.seq (.reg [1] f_tremor_Bet_going_r0) (.seq (.reg [1, 3] f_tremor_Bet_going_r1) (.seq (.reg [2] f_tremor_Bet_going_r2) .ret)))⟩

theorem e_tremor_Bet_going_r0 : type_of% f_tremor_Bet_going_r0.eq_1 := by_rfl f_tremor_Bet_going_r0.eq_1
theorem e_tremor_Bet_going_r1 : type_of% f_tremor_Bet_going_r1.eq_1 := by_rfl f_tremor_Bet_going_r1.eq_1
theorem e_tremor_Bet_going_r2 : type_of% f_tremor_Bet_going_r2.eq_1 := by_rfl f_tremor_Bet_going_r2.eq_1
theorem e_tremor_Bet_going : type_of% f_tremor_Bet_going.eq_1 := by_rfl f_tremor_Bet_going.eq_1
theorem ok_tremor_Bet_going : fnC Tryz.prog a_tremor_Bet_going Tryz.f49 = some f_tremor_Bet_going := by kernel_rfl

/-! 50 fumarole/tremor.Inject$1 -/
def f_tremor_Inject_1_r0 : List Abs.Op := [
  ⟨some 2, none, false, .mv (.c (.bool false))⟩]

def f_tremor_Inject_1_r1 : List Abs.Op := [
  ⟨some 3, none, false, .mv (.t 0)⟩,
  ⟨some 4, none, false, .call false (.c (.fn i_tremor_within [] [])) [(.t 3), (.c (.int .i64 0)), (.c (.int .i64 1000000000))]⟩,
  ⟨some 2, none, false, .mv (.t 4)⟩]

def a_tremor_Inject_1 : Ann := ⟨[(1, [2]), (0, [0])], [], [], [], [], [], [], [], []⟩
def f_tremor_Inject_1 : Abs.Fn := ⟨1, [.t 2],
  (.seq (.reg [0] f_tremor_Inject_1_r0) (.seq (.reg [2] f_tremor_Inject_1_r1) .ret))⟩

theorem e_tremor_Inject_1_r0 : type_of% f_tremor_Inject_1_r0.eq_1 := by_rfl f_tremor_Inject_1_r0.eq_1
theorem e_tremor_Inject_1_r1 : type_of% f_tremor_Inject_1_r1.eq_1 := by_rfl f_tremor_Inject_1_r1.eq_1
theorem e_tremor_Inject_1 : type_of% f_tremor_Inject_1.eq_1 := by_rfl f_tremor_Inject_1.eq_1
theorem ok_tremor_Inject_1 : fnC Tryz.prog a_tremor_Inject_1 Tryz.f50 = some f_tremor_Inject_1 := by kernel_rfl

/-! 51 fumarole/tremor.all[int] -/
def f_tremor_all_int_r0 : List Abs.Op := [
  ⟨some 3, none, false, .boxi (.t 1)⟩,
  ⟨some 4, none, false, .mv (.c (.bool false))⟩]

def f_tremor_all_int_r1 : List Abs.Op := [
  ⟨some 5, none, false, .mv (.t 0)⟩,
  ⟨some 6, none, false, .mkf i_tremor_all_int_1 [] [(.t 3)]⟩,
  ⟨some 7, none, false, .call false (.c (.fn i_slices_ContainsFunc_int [] [])) [(.t 5), (.t 6)]⟩,
  ⟨some 8, none, false, .un .not (.t 7)⟩,
  ⟨some 4, none, false, .mv (.t 8)⟩]

def a_tremor_all_int : Ann := ⟨[(1, [4]), (0, [0, 3])], [], [], [], [], [], [], [], []⟩
def f_tremor_all_int : Abs.Fn := ⟨2, [.t 4],
  (.seq (.reg [0, 3] f_tremor_all_int_r0) (.seq (.reg [4] f_tremor_all_int_r1) .ret))⟩

theorem e_tremor_all_int_r0 : type_of% f_tremor_all_int_r0.eq_1 := by_rfl f_tremor_all_int_r0.eq_1
theorem e_tremor_all_int_r1 : type_of% f_tremor_all_int_r1.eq_1 := by_rfl f_tremor_all_int_r1.eq_1
theorem e_tremor_all_int : type_of% f_tremor_all_int.eq_1 := by_rfl f_tremor_all_int.eq_1
theorem ok_tremor_all_int : fnC Tryz.prog a_tremor_all_int Tryz.f51 = some f_tremor_all_int := by kernel_rfl

/-! 52 fumarole/tremor.all[uint8] -/
def f_tremor_all_uint8_r0 : List Abs.Op := [
  ⟨some 3, none, false, .boxi (.t 1)⟩,
  ⟨some 4, none, false, .mv (.c (.bool false))⟩]

def f_tremor_all_uint8_r1 : List Abs.Op := [
  ⟨some 5, none, false, .mv (.t 0)⟩,
  ⟨some 6, none, false, .mkf i_tremor_all_uint8_1 [] [(.t 3)]⟩,
  ⟨some 7, none, false, .call false (.c (.fn i_slices_ContainsFunc_uint8 [] [])) [(.t 5), (.t 6)]⟩,
  ⟨some 8, none, false, .un .not (.t 7)⟩,
  ⟨some 4, none, false, .mv (.t 8)⟩]

def a_tremor_all_uint8 : Ann := ⟨[(1, [4]), (0, [0, 3])], [], [], [], [], [], [], [], []⟩
def f_tremor_all_uint8 : Abs.Fn := ⟨2, [.t 4],
  (.seq (.reg [0, 3] f_tremor_all_uint8_r0) (.seq (.reg [4] f_tremor_all_uint8_r1) .ret))⟩

theorem e_tremor_all_uint8_r0 : type_of% f_tremor_all_uint8_r0.eq_1 := by_rfl f_tremor_all_uint8_r0.eq_1
theorem e_tremor_all_uint8_r1 : type_of% f_tremor_all_uint8_r1.eq_1 := by_rfl f_tremor_all_uint8_r1.eq_1
theorem e_tremor_all_uint8 : type_of% f_tremor_all_uint8.eq_1 := by_rfl f_tremor_all_uint8.eq_1
theorem ok_tremor_all_uint8 : fnC Tryz.prog a_tremor_all_uint8 Tryz.f52 = some f_tremor_all_uint8 := by kernel_rfl

/-! 53 fumarole/tremor.Inject$2 -/
def f_tremor_Inject_2_r0 : List Abs.Op := [
  ⟨some 2, none, false, .mv (.c (.bool false))⟩]

def f_tremor_Inject_2_r1 : List Abs.Op := [
  ⟨some 3, none, false, .mv (.t 0)⟩,
  ⟨some 4, none, false, .bin .leq (.t 3) (.c (.int .u8 2))⟩,
  ⟨some 2, none, false, .mv (.t 4)⟩]

def a_tremor_Inject_2 : Ann := ⟨[(1, [2]), (0, [0])], [], [], [], [], [], [], [], []⟩
def f_tremor_Inject_2 : Abs.Fn := ⟨1, [.t 2],
  (.seq (.reg [0] f_tremor_Inject_2_r0) (.seq (.reg [2] f_tremor_Inject_2_r1) .ret))⟩

theorem e_tremor_Inject_2_r0 : type_of% f_tremor_Inject_2_r0.eq_1 := by_rfl f_tremor_Inject_2_r0.eq_1
theorem e_tremor_Inject_2_r1 : type_of% f_tremor_Inject_2_r1.eq_1 := by_rfl f_tremor_Inject_2_r1.eq_1
theorem e_tremor_Inject_2 : type_of% f_tremor_Inject_2.eq_1 := by_rfl f_tremor_Inject_2.eq_1
theorem ok_tremor_Inject_2 : fnC Tryz.prog a_tremor_Inject_2 Tryz.f53 = some f_tremor_Inject_2 := by kernel_rfl

/-! 54 fumarole/fumarolelaw09.Range -/
def f_law09_Range_r0 : List Abs.Op := [
  ⟨some 1, none, false, .boxi (.t 0)⟩,
  ⟨some 2, none, false, .alcv [] [(.int .i64 0), (.int .i64 0)]⟩]

def f_law09_Range_r1 : List Abs.Op := [
  ⟨some 3, none, false, .fadr 0 (.t 1)⟩,
  ⟨some 4, none, false, .ld false 1 (.t 3)⟩,
  ⟨some 5, none, false, .fadr 1 (.t 1)⟩,
  ⟨some 6, none, false, .ld false 1 (.t 5)⟩,
  ⟨some 7, none, false, .bld [(.int .i64 0), (.int .i64 0)] [(0, 1, (.t 4)), (1, 1, (.t 6))]⟩,
  ⟨none, none, false, .stv 2 [] 2 2 (.t 7)⟩]

def a_law09_Range : Ann := ⟨[(1, [2]), (0, [1, 2])], [], [], [2], [2], [], [], [], []⟩
def f_law09_Range : Abs.Fn := ⟨1, [.v 2 true 2],
  (.seq (.reg [1, 2] f_law09_Range_r0) (.seq (.reg [2] f_law09_Range_r1) .ret))⟩

theorem e_law09_Range_r0 : type_of% f_law09_Range_r0.eq_1 := by_rfl f_law09_Range_r0.eq_1
theorem e_law09_Range_r1 : type_of% f_law09_Range_r1.eq_1 := by_rfl f_law09_Range_r1.eq_1
theorem e_law09_Range : type_of% f_law09_Range.eq_1 := by_rfl f_law09_Range.eq_1
theorem ok_law09_Range : fnC Tryz.prog a_law09_Range Tryz.f54 = some f_law09_Range := by kernel_rfl

/-! 55 slices.ContainsFunc[[]fumarole/tremor.Rule,fumarole/tremor.Rule] -/
def f_slices_ContainsFunc_tremor_Rule_r0 : List Abs.Op := [
  ⟨some 4, none, false, .mv (.c (.bool false))⟩]

def f_slices_ContainsFunc_tremor_Rule_r1 : List Abs.Op := [
  ⟨some 5, none, false, .mv (.t 0)⟩,
  ⟨some 6, none, false, .mv (.t 1)⟩,
  ⟨some 7, none, false, .call false (.c (.fn i_slices_IndexFunc_tremor_Rule [] [])) [(.t 5), (.t 6)]⟩,
  ⟨some 8, none, false, .bin .geq (.t 7) (.c (.int .i64 0))⟩,
  ⟨some 4, none, false, .mv (.t 8)⟩]

def a_slices_ContainsFunc_tremor_Rule : Ann := ⟨[(1, [4]), (0, [0, 1])], [], [], [], [], [], [], [], []⟩
def f_slices_ContainsFunc_tremor_Rule : Abs.Fn := ⟨2, [.t 4],
  (.seq (.reg [0, 1] f_slices_ContainsFunc_tremor_Rule_r0) (.seq (.reg [4] f_slices_ContainsFunc_tremor_Rule_r1) .ret))⟩

theorem e_slices_ContainsFunc_tremor_Rule_r0 : type_of% f_slices_ContainsFunc_tremor_Rule_r0.eq_1 := by_rfl f_slices_ContainsFunc_tremor_Rule_r0.eq_1
theorem e_slices_ContainsFunc_tremor_Rule_r1 : type_of% f_slices_ContainsFunc_tremor_Rule_r1.eq_1 := by_rfl f_slices_ContainsFunc_tremor_Rule_r1.eq_1
theorem e_slices_ContainsFunc_tremor_Rule : type_of% f_slices_ContainsFunc_tremor_Rule.eq_1 := by_rfl f_slices_ContainsFunc_tremor_Rule.eq_1
theorem ok_slices_ContainsFunc_tremor_Rule : fnC Tryz.prog a_slices_ContainsFunc_tremor_Rule Tryz.f55 = some f_slices_ContainsFunc_tremor_Rule := by kernel_rfl

/-! 56 fumarole/tremor.all[fumarole/tremor.Rule]$1 -/
def f_tremor_all_tremor_Rule_1_r0 : List Abs.Op := [
  ⟨some 2, none, false, .boxi (.t 0)⟩,
  ⟨some 3, none, false, .mv (.c (.bool false))⟩]

def f_tremor_all_tremor_Rule_1_r1 : List Abs.Op := [
  ⟨some 4, none, false, .ld false 1 (.t 1)⟩,
  ⟨some 5, none, false, .ld true 10 (.t 2)⟩,
  ⟨some 6, none, false, .call false (.t 4) [(.t 5)]⟩,
  ⟨some 7, none, false, .un .not (.t 6)⟩,
  ⟨some 3, none, false, .mv (.t 7)⟩]

def a_tremor_all_tremor_Rule_1 : Ann := ⟨[(1, [3]), (0, [1, 2])], [], [], [], [], [], [], [], []⟩
def f_tremor_all_tremor_Rule_1 : Abs.Fn := ⟨2, [.t 3],
  (.seq (.reg [1, 2] f_tremor_all_tremor_Rule_1_r0) (.seq (.reg [3] f_tremor_all_tremor_Rule_1_r1) .ret))⟩

theorem e_tremor_all_tremor_Rule_1_r0 : type_of% f_tremor_all_tremor_Rule_1_r0.eq_1 := by_rfl f_tremor_all_tremor_Rule_1_r0.eq_1
theorem e_tremor_all_tremor_Rule_1_r1 : type_of% f_tremor_all_tremor_Rule_1_r1.eq_1 := by_rfl f_tremor_all_tremor_Rule_1_r1.eq_1
theorem e_tremor_all_tremor_Rule_1 : type_of% f_tremor_all_tremor_Rule_1.eq_1 := by_rfl f_tremor_all_tremor_Rule_1.eq_1
theorem ok_tremor_all_tremor_Rule_1 : fnC Tryz.prog a_tremor_all_tremor_Rule_1 Tryz.f56 = some f_tremor_all_tremor_Rule_1 := by kernel_rfl

/-! 57 fumarole/tremor.box -/
def f_tremor_box_r0 : List Abs.Op := [
  ⟨some 2, none, false, .boxi (.t 0)⟩,
  ⟨some 3, none, false, .boxi (.t 1)⟩,
  ⟨some 4, none, false, .mv (.c (.bool false))⟩]

def f_tremor_box_r1 : List Abs.Op := [
  ⟨some 5, none, false, .ld true 3 (.t 2)⟩,
  ⟨some 6, none, false, .call false (.c (.fn i_tremor_Point_valid [] [])) [(.t 5)]⟩,
  ⟨some 7, none, false, .mv (.t 6)⟩,
  ⟨some 8, some (7, true), false, .ld true 3 (.t 3)⟩,
  ⟨some 9, some (7, true), false, .call false (.c (.fn i_tremor_Point_valid [] [])) [(.t 8)]⟩,
  ⟨some 10, none, false, .pick (.t 7) (.t 9) (.c (.bool false))⟩,
  ⟨some 11, none, false, .mv (.t 10)⟩,
  ⟨some 12, some (11, true), false, .fadr 0 (.t 2)⟩,
  ⟨some 13, some (11, true), false, .ld false 1 (.t 12)⟩,
  ⟨some 14, some (11, true), false, .fadr 0 (.t 3)⟩,
  ⟨some 15, some (11, true), false, .ld false 1 (.t 14)⟩,
  ⟨some 16, some (11, true), false, .bin .leq (.t 13) (.t 15)⟩,
  ⟨some 17, none, false, .pick (.t 11) (.t 16) (.c (.bool false))⟩,
  ⟨some 18, none, false, .mv (.t 17)⟩,
  ⟨some 19, some (18, true), false, .fadr 1 (.t 2)⟩,
  ⟨some 20, some (18, true), false, .ld false 1 (.t 19)⟩,
  ⟨some 21, some (18, true), false, .fadr 1 (.t 3)⟩,
  ⟨some 22, some (18, true), false, .ld false 1 (.t 21)⟩,
  ⟨some 23, some (18, true), false, .bin .leq (.t 20) (.t 22)⟩,
  ⟨some 24, none, false, .pick (.t 18) (.t 23) (.c (.bool false))⟩,
  ⟨some 25, none, false, .mv (.t 24)⟩,
  ⟨some 26, some (25, true), false, .fadr 2 (.t 2)⟩,
  ⟨some 27, some (25, true), false, .ld false 1 (.t 26)⟩,
  ⟨some 28, some (25, true), false, .fadr 2 (.t 3)⟩,
  ⟨some 29, some (25, true), false, .ld false 1 (.t 28)⟩,
  ⟨some 30, some (25, true), false, .bin .leq (.t 27) (.t 29)⟩,
  ⟨some 31, none, false, .pick (.t 25) (.t 30) (.c (.bool false))⟩,
  ⟨some 4, none, false, .mv (.t 31)⟩]

def a_tremor_box : Ann := ⟨[(1, [4]), (0, [2, 3])], [], [], [], [], [], [], [], []⟩
def f_tremor_box : Abs.Fn := ⟨2, [.t 4],
  (.seq (.reg [2, 3] f_tremor_box_r0) (.seq (.reg [4] f_tremor_box_r1) .ret))⟩

theorem e_tremor_box_r0 : type_of% f_tremor_box_r0.eq_1 := by_rfl f_tremor_box_r0.eq_1
theorem e_tremor_box_r1 : type_of% f_tremor_box_r1.eq_1 := by_rfl f_tremor_box_r1.eq_1
theorem e_tremor_box : type_of% f_tremor_box.eq_1 := by_rfl f_tremor_box.eq_1
theorem ok_tremor_box : fnC Tryz.prog a_tremor_box Tryz.f57 = some f_tremor_box := by kernel_rfl

/-! 58 slices.ContainsFunc[[]fumarole/tremor.Event,fumarole/tremor.Event] -/
def f_slices_ContainsFunc_tremor_Event_r0 : List Abs.Op := [
  ⟨some 4, none, false, .mv (.c (.bool false))⟩]

def f_slices_ContainsFunc_tremor_Event_r1 : List Abs.Op := [
  ⟨some 5, none, false, .mv (.t 0)⟩,
  ⟨some 6, none, false, .mv (.t 1)⟩,
  ⟨some 7, none, false, .call false (.c (.fn i_slices_IndexFunc_tremor_Event [] [])) [(.t 5), (.t 6)]⟩,
  ⟨some 8, none, false, .bin .geq (.t 7) (.c (.int .i64 0))⟩,
  ⟨some 4, none, false, .mv (.t 8)⟩]

def a_slices_ContainsFunc_tremor_Event : Ann := ⟨[(1, [4]), (0, [0, 1])], [], [], [], [], [], [], [], []⟩
def f_slices_ContainsFunc_tremor_Event : Abs.Fn := ⟨2, [.t 4],
  (.seq (.reg [0, 1] f_slices_ContainsFunc_tremor_Event_r0) (.seq (.reg [4] f_slices_ContainsFunc_tremor_Event_r1) .ret))⟩

theorem e_slices_ContainsFunc_tremor_Event_r0 : type_of% f_slices_ContainsFunc_tremor_Event_r0.eq_1 := by_rfl f_slices_ContainsFunc_tremor_Event_r0.eq_1
theorem e_slices_ContainsFunc_tremor_Event_r1 : type_of% f_slices_ContainsFunc_tremor_Event_r1.eq_1 := by_rfl f_slices_ContainsFunc_tremor_Event_r1.eq_1
theorem e_slices_ContainsFunc_tremor_Event : type_of% f_slices_ContainsFunc_tremor_Event.eq_1 := by_rfl f_slices_ContainsFunc_tremor_Event.eq_1
theorem ok_slices_ContainsFunc_tremor_Event : fnC Tryz.prog a_slices_ContainsFunc_tremor_Event Tryz.f58 = some f_slices_ContainsFunc_tremor_Event := by kernel_rfl

/-! 59 fumarole/tremor.all[fumarole/tremor.Event]$1 -/
def f_tremor_all_tremor_Event_1_r0 : List Abs.Op := [
  ⟨some 2, none, false, .boxi (.t 0)⟩,
  ⟨some 3, none, false, .mv (.c (.bool false))⟩]

def f_tremor_all_tremor_Event_1_r1 : List Abs.Op := [
  ⟨some 4, none, false, .ld false 1 (.t 1)⟩,
  ⟨some 5, none, false, .ld true 2 (.t 2)⟩,
  ⟨some 6, none, false, .call false (.t 4) [(.t 5)]⟩,
  ⟨some 7, none, false, .un .not (.t 6)⟩,
  ⟨some 3, none, false, .mv (.t 7)⟩]

def a_tremor_all_tremor_Event_1 : Ann := ⟨[(1, [3]), (0, [1, 2])], [], [], [], [], [], [], [], []⟩
def f_tremor_all_tremor_Event_1 : Abs.Fn := ⟨2, [.t 3],
  (.seq (.reg [1, 2] f_tremor_all_tremor_Event_1_r0) (.seq (.reg [3] f_tremor_all_tremor_Event_1_r1) .ret))⟩

theorem e_tremor_all_tremor_Event_1_r0 : type_of% f_tremor_all_tremor_Event_1_r0.eq_1 := by_rfl f_tremor_all_tremor_Event_1_r0.eq_1
theorem e_tremor_all_tremor_Event_1_r1 : type_of% f_tremor_all_tremor_Event_1_r1.eq_1 := by_rfl f_tremor_all_tremor_Event_1_r1.eq_1
theorem e_tremor_all_tremor_Event_1 : type_of% f_tremor_all_tremor_Event_1.eq_1 := by_rfl f_tremor_all_tremor_Event_1.eq_1
theorem ok_tremor_all_tremor_Event_1 : fnC Tryz.prog a_tremor_all_tremor_Event_1 Tryz.f59 = some f_tremor_all_tremor_Event_1 := by kernel_rfl

/-! 60 (fumarole/tremor.Event).valid$1 -/
def f_tremor_Event_valid_1_r0 : List Abs.Op := [
  ⟨some 1, none, false, .boxi (.t 0)⟩,
  ⟨some 2, none, false, .mv (.c (.bool false))⟩]

def f_tremor_Event_valid_1_r1 : List Abs.Op := [
  ⟨some 3, none, false, .fadr 0 (.t 1)⟩,
  ⟨some 4, none, false, .ld true 3 (.t 3)⟩,
  ⟨some 5, none, false, .call false (.c (.fn i_tremor_Point_valid [] [])) [(.t 4)]⟩,
  ⟨some 6, none, false, .mv (.t 5)⟩,
  ⟨some 7, some (6, true), false, .fadr 3 (.t 1)⟩,
  ⟨some 8, some (6, true), false, .ld false 1 (.t 7)⟩,
  ⟨some 9, some (6, true), false, .call false (.c (.fn i_tremor_within [] [])) [(.t 8), (.c (.int .i64 0)), (.c (.int .i64 160))]⟩,
  ⟨some 10, none, false, .pick (.t 6) (.t 9) (.c (.bool false))⟩,
  ⟨some 2, none, false, .mv (.t 10)⟩]

def a_tremor_Event_valid_1 : Ann := ⟨[(1, [2]), (0, [1])], [], [], [], [], [], [], [], []⟩
def f_tremor_Event_valid_1 : Abs.Fn := ⟨1, [.t 2],
  (.seq (.reg [1] f_tremor_Event_valid_1_r0) (.seq (.reg [2] f_tremor_Event_valid_1_r1) .ret))⟩

theorem e_tremor_Event_valid_1_r0 : type_of% f_tremor_Event_valid_1_r0.eq_1 := by_rfl f_tremor_Event_valid_1_r0.eq_1
theorem e_tremor_Event_valid_1_r1 : type_of% f_tremor_Event_valid_1_r1.eq_1 := by_rfl f_tremor_Event_valid_1_r1.eq_1
theorem e_tremor_Event_valid_1 : type_of% f_tremor_Event_valid_1.eq_1 := by_rfl f_tremor_Event_valid_1.eq_1
theorem ok_tremor_Event_valid_1 : fnC Tryz.prog a_tremor_Event_valid_1 Tryz.f60 = some f_tremor_Event_valid_1 := by kernel_rfl

end Go.Proofs.YticpenoicajakaaGreat
