/- The code of functions of the program, in the small instruction set; each is what the translation makes of it. -/
import Derived.Test.YtcccafphhmcifaaIds
set_option linter.unusedVariables false
set_option maxRecDepth 100000
namespace Go.Proofs.Ytcccafphhmcifaa
open Go Go.Abs
/-! 3 fumarole/fumarolelaw11.LeaseSplits -/
def f_law11_LeaseSplits_r0 : List Abs.Op := [
  ⟨some 4, none, false, .mv (.c (.bool false))⟩]

def f_law11_LeaseSplits_r1 : List Abs.Op := [
  ⟨some 7, none, false, .mv (.t 1)⟩,
  ⟨some 8, none, false, .lenS (.t 7)⟩,
  ⟨some 9, none, false, .bin .gtr (.t 8) (.c (.int .i64 12))⟩]

def f_law11_LeaseSplits_r2 : List Abs.Op := [
  ⟨some 10, none, false, .call false (.c (.fn i_law11_wakes [] [])) []⟩,
  ⟨some 4, none, false, .mv (.t 10)⟩]

def f_law11_LeaseSplits_r3 : List Abs.Op := [
  ⟨some 12, none, false, .mv (.t 0)⟩,
  ⟨some 13, none, false, .mv (.t 1)⟩,
  ⟨some 14, none, false, .call false (.c (.fn i_law11_list [] [])) [(.t 13)]⟩,
  ⟨some 15, none, false, .call false (.c (.fn i_lease_Split [] [])) [(.t 12), (.t 14)]⟩,
  ⟨some 11, none, false, .mv (.t 15)⟩,
  ⟨some 16, none, false, .ext (.t 11) 0⟩,
  ⟨some 17, none, false, .ext (.t 11) 1⟩,
  ⟨some 5, none, false, .mv (.t 16)⟩,
  ⟨some 6, none, false, .mv (.t 17)⟩]

def f_law11_LeaseSplits_r4 : List Abs.Op := [
  ⟨some 18, none, false, .mv (.t 0)⟩,
  ⟨some 19, none, false, .call false (.c (.fn i_ref11_In [] [])) [(.t 18), (.c (.int .i64 0)), (.c (.int .i64 1000000000000))]⟩,
  ⟨some 20, none, false, .un .not (.t 19)⟩]

def f_law11_LeaseSplits_r5 : List Abs.Op := [
  ⟨some 21, none, false, .mv (.t 6)⟩,
  ⟨some 22, none, false, .bin .eql (.t 21) (.c (.int .i64 2))⟩,
  ⟨some 23, none, false, .mv (.t 22)⟩,
  ⟨some 24, some (23, true), false, .mv (.t 5)⟩,
  ⟨some 25, some (23, true), false, .lenS (.t 24)⟩,
  ⟨some 26, some (23, true), false, .bin .eql (.t 25) (.c (.int .i64 0))⟩,
  ⟨some 27, none, false, .pick (.t 23) (.t 26) (.c (.bool false))⟩,
  ⟨some 28, none, false, .mv (.t 27)⟩,
  ⟨some 29, some (28, true), false, .call false (.c (.fn i_law11_wakes [] [])) []⟩,
  ⟨some 30, none, false, .pick (.t 28) (.t 29) (.c (.bool false))⟩,
  ⟨some 4, none, false, .mv (.t 30)⟩]

def f_law11_LeaseSplits_r6 : List Abs.Op := [
  ⟨some 31, none, false, .mv (.t 1)⟩,
  ⟨some 32, none, false, .call false (.c (.fn i_ref11_Weights [] [])) [(.t 31)]⟩,
  ⟨some 33, none, false, .un .not (.t 32)⟩]

def f_law11_LeaseSplits_r7 : List Abs.Op := [
  ⟨some 34, none, false, .mv (.t 6)⟩,
  ⟨some 35, none, false, .bin .eql (.t 34) (.c (.int .i64 1))⟩,
  ⟨some 36, none, false, .mv (.t 35)⟩,
  ⟨some 37, some (36, true), false, .mv (.t 5)⟩,
  ⟨some 38, some (36, true), false, .lenS (.t 37)⟩,
  ⟨some 39, some (36, true), false, .bin .eql (.t 38) (.c (.int .i64 0))⟩,
  ⟨some 40, none, false, .pick (.t 36) (.t 39) (.c (.bool false))⟩,
  ⟨some 41, none, false, .mv (.t 40)⟩,
  ⟨some 42, some (41, true), false, .call false (.c (.fn i_law11_wakes [] [])) []⟩,
  ⟨some 43, none, false, .pick (.t 41) (.t 42) (.c (.bool false))⟩,
  ⟨some 4, none, false, .mv (.t 43)⟩]

def f_law11_LeaseSplits_r8 : List Abs.Op := [
  ⟨some 44, none, false, .mv (.t 6)⟩,
  ⟨some 45, none, false, .bin .eql (.t 44) (.c (.int .i64 0))⟩,
  ⟨some 46, none, false, .mv (.t 45)⟩,
  ⟨some 47, some (46, true), false, .mv (.t 5)⟩,
  ⟨some 48, some (46, true), false, .mv (.t 0)⟩,
  ⟨some 49, some (46, true), false, .mv (.t 1)⟩,
  ⟨some 50, some (46, true), false, .call false (.c (.fn i_ref11_Split [] [])) [(.t 48), (.t 49)]⟩,
  ⟨some 51, some (46, true), false, .call false (.c (.fn i_law11_ints [] [])) [(.t 47), (.t 50)]⟩,
  ⟨some 52, none, false, .pick (.t 46) (.t 51) (.c (.bool false))⟩,
  ⟨some 53, none, false, .mv (.t 52)⟩,
  ⟨some 54, some (53, true), false, .call false (.c (.fn i_law11_wakes [] [])) []⟩,
  ⟨some 55, none, false, .pick (.t 53) (.t 54) (.c (.bool false))⟩,
  ⟨some 4, none, false, .mv (.t 55)⟩]

def a_law11_LeaseSplits : Ann := ⟨[(8, [4]), (7, [4]), (6, [0, 1, 5, 6, 33]), (5, [4]), (4, [0, 1, 5, 6, 20]), (3, [0, 1, 5, 6]), (2, [4]), (1, [0, 1, 9]), (0, [0, 1])], [], [], [], [], [], [], [], [], []⟩
def f_law11_LeaseSplits : Abs.Fn := ⟨2, [.t 4],
  (.seq (.reg [0, 1] f_law11_LeaseSplits_r0) (.seq (.seq (.reg [0, 1, 9] f_law11_LeaseSplits_r1) (.ite (.t 9) (.seq (.reg [4] f_law11_LeaseSplits_r2) .ret) .nop)) (.seq (.reg [0, 1, 5, 6] f_law11_LeaseSplits_r3) (.seq (.seq (.reg [0, 1, 5, 6, 20] f_law11_LeaseSplits_r4) (.ite (.t 20) (.seq (.reg [4] f_law11_LeaseSplits_r5) .ret) .nop)) (.seq (.seq (.reg [0, 1, 5, 6, 33] f_law11_LeaseSplits_r6) (.ite (.t 33) (.seq (.reg [4] f_law11_LeaseSplits_r7) .ret) .nop)) (.seq (.reg [4] f_law11_LeaseSplits_r8) .ret))))))⟩

theorem e_law11_LeaseSplits_r0 : type_of% f_law11_LeaseSplits_r0.eq_1 := by_rfl f_law11_LeaseSplits_r0.eq_1
theorem e_law11_LeaseSplits_r1 : type_of% f_law11_LeaseSplits_r1.eq_1 := by_rfl f_law11_LeaseSplits_r1.eq_1
theorem e_law11_LeaseSplits_r2 : type_of% f_law11_LeaseSplits_r2.eq_1 := by_rfl f_law11_LeaseSplits_r2.eq_1
theorem e_law11_LeaseSplits_r3 : type_of% f_law11_LeaseSplits_r3.eq_1 := by_rfl f_law11_LeaseSplits_r3.eq_1
theorem e_law11_LeaseSplits_r4 : type_of% f_law11_LeaseSplits_r4.eq_1 := by_rfl f_law11_LeaseSplits_r4.eq_1
theorem e_law11_LeaseSplits_r5 : type_of% f_law11_LeaseSplits_r5.eq_1 := by_rfl f_law11_LeaseSplits_r5.eq_1
theorem e_law11_LeaseSplits_r6 : type_of% f_law11_LeaseSplits_r6.eq_1 := by_rfl f_law11_LeaseSplits_r6.eq_1
theorem e_law11_LeaseSplits_r7 : type_of% f_law11_LeaseSplits_r7.eq_1 := by_rfl f_law11_LeaseSplits_r7.eq_1
theorem e_law11_LeaseSplits_r8 : type_of% f_law11_LeaseSplits_r8.eq_1 := by_rfl f_law11_LeaseSplits_r8.eq_1
theorem e_law11_LeaseSplits : type_of% f_law11_LeaseSplits.eq_1 := by_rfl f_law11_LeaseSplits.eq_1
theorem ok_law11_LeaseSplits : fnC Try.prog a_law11_LeaseSplits Try.f3 = some f_law11_LeaseSplits := by kernel_rfl

/-! 4 fumarole/fumarolelaw11.LeaseFair -/
def f_law11_LeaseFair_r0 : List Abs.Op := [
  ⟨some 4, none, false, .mv (.c (.bool false))⟩]

def f_law11_LeaseFair_r1 : List Abs.Op := [
  ⟨some 14, none, false, .mv (.t 1)⟩,
  ⟨some 15, none, false, .lenS (.t 14)⟩,
  ⟨some 16, none, false, .bin .lss (.t 15) (.c (.int .i64 1))⟩,
  ⟨some 17, none, false, .mv (.t 16)⟩,
  ⟨some 18, some (17, false), false, .mv (.t 1)⟩,
  ⟨some 19, some (17, false), false, .lenS (.t 18)⟩,
  ⟨some 20, some (17, false), false, .bin .gtr (.t 19) (.c (.int .i64 8))⟩,
  ⟨some 21, none, false, .pick (.t 17) (.c (.bool true)) (.t 20)⟩]

def f_law11_LeaseFair_r2 : List Abs.Op := [
  ⟨some 22, none, false, .call false (.c (.fn i_law11_wakes [] [])) []⟩,
  ⟨some 4, none, false, .mv (.t 22)⟩]

def f_law11_LeaseFair_r3 : List Abs.Op := [
  ⟨some 5, none, false, .nilb 1⟩]

def f_law11_LeaseFair_r4 : List Abs.Op := [
  ⟨some 6, none, false, .mv (.c (.int .i64 0))⟩]

def f_law11_LeaseFair_r5 : List Abs.Op := [
  ⟨some 7, none, false, .mv (.c (.int .i64 0))⟩]

def f_law11_LeaseFair_r6 : List Abs.Op := [
  ⟨some 23, none, false, .mv (.t 7)⟩,
  ⟨some 24, none, false, .mv (.t 1)⟩,
  ⟨some 25, none, false, .lenS (.t 24)⟩,
  ⟨some 26, none, false, .bin .lss (.t 23) (.t 25)⟩]

def f_law11_LeaseFair_r7 : List Abs.Op := [
  ⟨some 29, none, false, .mv (.t 5)⟩,
  ⟨some 30, none, false, .mv (.t 1)⟩,
  ⟨some 31, none, false, .mv (.t 7)⟩,
  ⟨some 32, none, false, .idxS 1 (.t 30) (.t 31)⟩,
  ⟨some 33, none, false, .ld false 1 (.t 32)⟩,
  ⟨some 34, none, false, .bin .shr (.t 33) (.c (.int .u64 4))⟩,
  ⟨some 35, none, false, .cvt .i64 (.t 34)⟩,
  ⟨some 36, none, false, .bsi 1 1 [(.int .i64 0)] [(0, 1, (.t 35))]⟩,
  ⟨some 37, none, false, .app 1 8 (.t 29) (.t 36)⟩,
  ⟨some 5, none, false, .mv (.t 37)⟩]

def f_law11_LeaseFair_r8 : List Abs.Op := [
  ⟨some 38, none, false, .mv (.t 6)⟩,
  ⟨some 39, none, false, .mv (.t 1)⟩,
  ⟨some 40, none, false, .mv (.t 7)⟩,
  ⟨some 41, none, false, .idxS 1 (.t 39) (.t 40)⟩,
  ⟨some 42, none, false, .ld false 1 (.t 41)⟩,
  ⟨some 43, none, false, .bin .shr (.t 42) (.c (.int .u64 4))⟩,
  ⟨some 44, none, false, .cvt .i64 (.t 43)⟩,
  ⟨some 45, none, false, .bin .add (.t 38) (.t 44)⟩,
  ⟨some 6, none, false, .mv (.t 45)⟩]

def f_law11_LeaseFair_r9 : List Abs.Op := [
  ⟨some 27, none, false, .mv (.t 7)⟩,
  ⟨some 28, none, false, .bin .add (.t 27) (.c (.int .i64 1))⟩,
  ⟨some 7, none, false, .mv (.t 28)⟩]

def f_law11_LeaseFair_l10 : Abs.Cmd :=
  (.seq (.seq (.reg [0, 1, 5, 6, 7, 26] f_law11_LeaseFair_r6) (.ite (.t 26) .nop (.exit 0))) (.seq (.blk 1 (.seq (.reg [0, 1, 5, 6, 7] f_law11_LeaseFair_r7) (.reg [0, 1, 5, 6, 7] f_law11_LeaseFair_r8))) (.reg [0, 1, 5, 6, 7] f_law11_LeaseFair_r9)))

def f_law11_LeaseFair_r11 : List Abs.Op := [
  ⟨some 46, none, false, .mv (.t 0)⟩,
  ⟨some 47, none, false, .bin .shr (.t 46) (.c (.int .u64 1))⟩,
  ⟨some 48, none, false, .cvt .i64 (.t 47)⟩,
  ⟨some 8, none, false, .mv (.t 48)⟩]

def f_law11_LeaseFair_r12 : List Abs.Op := [
  ⟨some 50, none, false, .mv (.t 8)⟩,
  ⟨some 51, none, false, .mv (.t 5)⟩,
  ⟨some 52, none, false, .call false (.c (.fn i_law11_list [] [])) [(.t 51)]⟩,
  ⟨some 53, none, false, .call false (.c (.fn i_lease_Split [] [])) [(.t 50), (.t 52)]⟩,
  ⟨some 49, none, false, .mv (.t 53)⟩,
  ⟨some 54, none, false, .ext (.t 49) 0⟩,
  ⟨some 55, none, false, .ext (.t 49) 1⟩,
  ⟨some 9, none, false, .mv (.t 54)⟩,
  ⟨some 10, none, false, .mv (.t 55)⟩]

def f_law11_LeaseFair_r13 : List Abs.Op := [
  ⟨some 56, none, false, .mv (.t 6)⟩,
  ⟨some 57, none, false, .bin .eql (.t 56) (.c (.int .i64 0))⟩]

def f_law11_LeaseFair_r14 : List Abs.Op := [
  ⟨some 58, none, false, .mv (.t 10)⟩,
  ⟨some 59, none, false, .bin .eql (.t 58) (.c (.int .i64 1))⟩,
  ⟨some 60, none, false, .mv (.t 59)⟩,
  ⟨some 61, some (60, true), false, .call false (.c (.fn i_law11_wakes [] [])) []⟩,
  ⟨some 62, none, false, .pick (.t 60) (.t 61) (.c (.bool false))⟩,
  ⟨some 4, none, false, .mv (.t 62)⟩]

def f_law11_LeaseFair_r15 : List Abs.Op := [
  ⟨some 63, none, false, .mv (.t 10)⟩,
  ⟨some 64, none, false, .bin .neq (.t 63) (.c (.int .i64 0))⟩,
  ⟨some 65, none, false, .mv (.t 64)⟩,
  ⟨some 66, some (65, false), false, .mv (.t 9)⟩,
  ⟨some 67, some (65, false), false, .lenS (.t 66)⟩,
  ⟨some 68, some (65, false), false, .mv (.t 5)⟩,
  ⟨some 69, some (65, false), false, .lenS (.t 68)⟩,
  ⟨some 70, some (65, false), false, .bin .neq (.t 67) (.t 69)⟩,
  ⟨some 71, none, false, .pick (.t 65) (.c (.bool true)) (.t 70)⟩]

def f_law11_LeaseFair_r16 : List Abs.Op := [
  ⟨some 4, none, false, .mv (.c (.bool false))⟩]

def f_law11_LeaseFair_r17 : List Abs.Op := [
  ⟨some 11, none, false, .mv (.c (.int .i64 0))⟩]

def f_law11_LeaseFair_r18 : List Abs.Op := [
  ⟨some 12, none, false, .mv (.c (.int .i64 0))⟩]

def f_law11_LeaseFair_r19 : List Abs.Op := [
  ⟨some 72, none, false, .mv (.t 12)⟩,
  ⟨some 73, none, false, .mv (.t 9)⟩,
  ⟨some 74, none, false, .lenS (.t 73)⟩,
  ⟨some 75, none, false, .bin .lss (.t 72) (.t 74)⟩]

def f_law11_LeaseFair_r20 : List Abs.Op := [
  ⟨some 78, none, false, .mv (.t 9)⟩,
  ⟨some 79, none, false, .mv (.t 12)⟩,
  ⟨some 80, none, false, .idxS 1 (.t 78) (.t 79)⟩,
  ⟨some 81, none, false, .ld false 1 (.t 80)⟩,
  ⟨some 82, none, false, .bin .lss (.t 81) (.c (.int .i64 0))⟩,
  ⟨some 83, none, false, .mv (.t 82)⟩,
  ⟨some 84, some (83, false), false, .mv (.t 9)⟩,
  ⟨some 85, some (83, false), false, .mv (.t 12)⟩,
  ⟨some 86, some (83, false), false, .idxS 1 (.t 84) (.t 85)⟩,
  ⟨some 87, some (83, false), false, .ld false 1 (.t 86)⟩,
  ⟨some 88, some (83, false), false, .mv (.t 8)⟩,
  ⟨some 89, some (83, false), false, .bin .gtr (.t 87) (.t 88)⟩,
  ⟨some 90, none, false, .pick (.t 83) (.c (.bool true)) (.t 89)⟩]

def f_law11_LeaseFair_r21 : List Abs.Op := [
  ⟨some 4, none, false, .mv (.c (.bool false))⟩]

def f_law11_LeaseFair_r22 : List Abs.Op := [
  ⟨some 91, none, true, .mv (.t 9)⟩,
  ⟨some 92, none, true, .mv (.t 12)⟩,
  ⟨some 93, none, true, .idxS 1 (.t 91) (.t 92)⟩,
  ⟨some 94, none, true, .ld false 1 (.t 93)⟩,
  ⟨some 95, none, true, .mv (.t 6)⟩,
  ⟨some 96, none, true, .bin .mul (.t 94) (.t 95)⟩,
  ⟨some 97, none, true, .mv (.t 8)⟩,
  ⟨some 98, none, true, .mv (.t 5)⟩,
  ⟨some 99, none, true, .mv (.t 12)⟩,
  ⟨some 100, none, true, .idxS 1 (.t 98) (.t 99)⟩,
  ⟨some 101, none, true, .ld false 1 (.t 100)⟩,
  ⟨some 102, none, true, .bin .mul (.t 97) (.t 101)⟩,
  ⟨some 103, none, false, .bin .sub (.t 96) (.t 102)⟩,
  ⟨some 13, none, false, .mv (.t 103)⟩]

def f_law11_LeaseFair_r23 : List Abs.Op := [
  ⟨some 104, none, false, .mv (.t 13)⟩,
  ⟨some 105, none, false, .mv (.t 6)⟩,
  ⟨some 106, none, false, .un .neg (.t 105)⟩,
  ⟨some 107, none, false, .bin .leq (.t 104) (.t 106)⟩,
  ⟨some 108, none, false, .mv (.t 107)⟩,
  ⟨some 109, some (108, false), false, .mv (.t 13)⟩,
  ⟨some 110, some (108, false), false, .mv (.t 6)⟩,
  ⟨some 111, some (108, false), false, .bin .geq (.t 109) (.t 110)⟩,
  ⟨some 112, none, false, .pick (.t 108) (.c (.bool true)) (.t 111)⟩]

def f_law11_LeaseFair_r24 : List Abs.Op := [
  ⟨some 4, none, false, .mv (.c (.bool false))⟩]

def f_law11_LeaseFair_r25 : List Abs.Op := [
  ⟨some 113, none, false, .mv (.t 11)⟩,
  ⟨some 114, none, false, .mv (.t 9)⟩,
  ⟨some 115, none, false, .mv (.t 12)⟩,
  ⟨some 116, none, false, .idxS 1 (.t 114) (.t 115)⟩,
  ⟨some 117, none, false, .ld false 1 (.t 116)⟩,
  ⟨some 118, none, false, .bin .add (.t 113) (.t 117)⟩,
  ⟨some 11, none, false, .mv (.t 118)⟩]

def f_law11_LeaseFair_r26 : List Abs.Op := [
  ⟨some 76, none, false, .mv (.t 12)⟩,
  ⟨some 77, none, false, .bin .add (.t 76) (.c (.int .i64 1))⟩,
  ⟨some 12, none, false, .mv (.t 77)⟩]

def f_law11_LeaseFair_l27 : Abs.Cmd :=
  (.seq (.seq (.reg [5, 6, 8, 9, 11, 12, 75] f_law11_LeaseFair_r19) (.ite (.t 75) .nop (.exit 2))) (.seq (.blk 3 (.seq (.seq (.reg [5, 6, 8, 9, 11, 12, 90] f_law11_LeaseFair_r20) (.ite (.t 90) (.seq (.reg [4] f_law11_LeaseFair_r21) .ret) .nop)) (.seq (.seq (.reg [5, 6, 8, 9, 11, 12, 13] f_law11_LeaseFair_r22) (.seq (.reg [5, 6, 8, 9, 11, 12, 112] f_law11_LeaseFair_r23) (.ite (.t 112) (.seq (.reg [4] f_law11_LeaseFair_r24) .ret) .nop))) (.reg [5, 6, 8, 9, 11, 12] f_law11_LeaseFair_r25)))) (.reg [5, 6, 8, 9, 11, 12] f_law11_LeaseFair_r26)))

def f_law11_LeaseFair_r28 : List Abs.Op := [
  ⟨some 119, none, false, .mv (.t 11)⟩,
  ⟨some 120, none, false, .mv (.t 8)⟩,
  ⟨some 121, none, false, .bin .eql (.t 119) (.t 120)⟩,
  ⟨some 122, none, false, .mv (.t 121)⟩,
  ⟨some 123, some (122, true), false, .call false (.c (.fn i_law11_wakes [] [])) []⟩,
  ⟨some 124, none, false, .pick (.t 122) (.t 123) (.c (.bool false))⟩,
  ⟨some 4, none, false, .mv (.t 124)⟩]

def a_law11_LeaseFair : Ann := ⟨[(26, [4]), (19, [5, 6, 8, 9, 11, 12]), (25, [5, 6, 8, 9, 11, 12]), (24, [4]), (23, [5, 6, 8, 9, 11, 12, 112]), (22, [5, 6, 8, 9, 11, 12, 13]), (21, [4]), (20, [5, 6, 8, 9, 11, 12, 90]), (18, [5, 6, 8, 9, 11, 12, 75]), (17, [5, 6, 8, 9, 11, 12]), (16, [5, 6, 8, 9, 11]), (15, [4]), (14, [5, 6, 8, 9, 71]), (13, [4]), (12, [5, 6, 8, 9, 10, 57]), (11, [5, 6, 8, 9, 10]), (10, [5, 6, 8]), (7, [0, 1, 5, 6, 7]), (9, [0, 1, 5, 6, 7]), (8, [0, 1, 5, 6, 7]), (6, [0, 1, 5, 6, 7, 26]), (5, [0, 1, 5, 6, 7]), (4, [0, 1, 5, 6]), (3, [0, 1, 5]), (2, [4]), (1, [0, 1, 21]), (0, [0, 1])], [(2, [5, 6, 8, 9, 11, 12]), (0, [0, 1, 5, 6, 7])], [], [5], [], [], [], [(10, [5])], [], []⟩
def f_law11_LeaseFair : Abs.Fn := ⟨2, [.t 4],
  (.seq (.reg [0, 1] f_law11_LeaseFair_r0) (.seq (.seq (.reg [0, 1, 21] f_law11_LeaseFair_r1) (.ite (.t 21) (.seq (.reg [4] f_law11_LeaseFair_r2) .ret) .nop)) (.seq (.reg [0, 1, 5] f_law11_LeaseFair_r3) (.seq (.reg [0, 1, 5, 6] f_law11_LeaseFair_r4) (.seq (.seq (.reg [0, 1, 5, 6, 7] f_law11_LeaseFair_r5) (.blk 0 (.loop [0, 1, 5, 6, 7] false f_law11_LeaseFair_l10))) (.seq (.seq (.frz [5]) (.reg [5, 6, 8] f_law11_LeaseFair_r11)) (.seq (.reg [5, 6, 8, 9, 10] f_law11_LeaseFair_r12) (.seq (.seq (.reg [5, 6, 8, 9, 10, 57] f_law11_LeaseFair_r13) (.ite (.t 57) (.seq (.reg [4] f_law11_LeaseFair_r14) .ret) .nop)) (.seq (.seq (.reg [5, 6, 8, 9, 71] f_law11_LeaseFair_r15) (.ite (.t 71) (.seq (.reg [4] f_law11_LeaseFair_r16) .ret) .nop)) (.seq (.reg [5, 6, 8, 9, 11] f_law11_LeaseFair_r17) (.seq (.seq (.reg [5, 6, 8, 9, 11, 12] f_law11_LeaseFair_r18) (.blk 2 (.loop [5, 6, 8, 9, 11, 12] false f_law11_LeaseFair_l27))) (.seq (.reg [4] f_law11_LeaseFair_r28) .ret))))))))))))⟩

theorem e_law11_LeaseFair_r0 : type_of% f_law11_LeaseFair_r0.eq_1 := by_rfl f_law11_LeaseFair_r0.eq_1
theorem e_law11_LeaseFair_r1 : type_of% f_law11_LeaseFair_r1.eq_1 := by_rfl f_law11_LeaseFair_r1.eq_1
theorem e_law11_LeaseFair_r2 : type_of% f_law11_LeaseFair_r2.eq_1 := by_rfl f_law11_LeaseFair_r2.eq_1
theorem e_law11_LeaseFair_r3 : type_of% f_law11_LeaseFair_r3.eq_1 := by_rfl f_law11_LeaseFair_r3.eq_1
theorem e_law11_LeaseFair_r4 : type_of% f_law11_LeaseFair_r4.eq_1 := by_rfl f_law11_LeaseFair_r4.eq_1
theorem e_law11_LeaseFair_r5 : type_of% f_law11_LeaseFair_r5.eq_1 := by_rfl f_law11_LeaseFair_r5.eq_1
theorem e_law11_LeaseFair_r6 : type_of% f_law11_LeaseFair_r6.eq_1 := by_rfl f_law11_LeaseFair_r6.eq_1
theorem e_law11_LeaseFair_r7 : type_of% f_law11_LeaseFair_r7.eq_1 := by_rfl f_law11_LeaseFair_r7.eq_1
theorem e_law11_LeaseFair_r8 : type_of% f_law11_LeaseFair_r8.eq_1 := by_rfl f_law11_LeaseFair_r8.eq_1
theorem e_law11_LeaseFair_r9 : type_of% f_law11_LeaseFair_r9.eq_1 := by_rfl f_law11_LeaseFair_r9.eq_1
theorem e_law11_LeaseFair_l10 : type_of% f_law11_LeaseFair_l10.eq_1 := by_rfl f_law11_LeaseFair_l10.eq_1
theorem e_law11_LeaseFair_r11 : type_of% f_law11_LeaseFair_r11.eq_1 := by_rfl f_law11_LeaseFair_r11.eq_1
theorem e_law11_LeaseFair_r12 : type_of% f_law11_LeaseFair_r12.eq_1 := by_rfl f_law11_LeaseFair_r12.eq_1
theorem e_law11_LeaseFair_r13 : type_of% f_law11_LeaseFair_r13.eq_1 := by_rfl f_law11_LeaseFair_r13.eq_1
theorem e_law11_LeaseFair_r14 : type_of% f_law11_LeaseFair_r14.eq_1 := by_rfl f_law11_LeaseFair_r14.eq_1
theorem e_law11_LeaseFair_r15 : type_of% f_law11_LeaseFair_r15.eq_1 := by_rfl f_law11_LeaseFair_r15.eq_1
theorem e_law11_LeaseFair_r16 : type_of% f_law11_LeaseFair_r16.eq_1 := by_rfl f_law11_LeaseFair_r16.eq_1
theorem e_law11_LeaseFair_r17 : type_of% f_law11_LeaseFair_r17.eq_1 := by_rfl f_law11_LeaseFair_r17.eq_1
theorem e_law11_LeaseFair_r18 : type_of% f_law11_LeaseFair_r18.eq_1 := by_rfl f_law11_LeaseFair_r18.eq_1
theorem e_law11_LeaseFair_r19 : type_of% f_law11_LeaseFair_r19.eq_1 := by_rfl f_law11_LeaseFair_r19.eq_1
theorem e_law11_LeaseFair_r20 : type_of% f_law11_LeaseFair_r20.eq_1 := by_rfl f_law11_LeaseFair_r20.eq_1
theorem e_law11_LeaseFair_r21 : type_of% f_law11_LeaseFair_r21.eq_1 := by_rfl f_law11_LeaseFair_r21.eq_1
theorem e_law11_LeaseFair_r22 : type_of% f_law11_LeaseFair_r22.eq_1 := by_rfl f_law11_LeaseFair_r22.eq_1
theorem e_law11_LeaseFair_r23 : type_of% f_law11_LeaseFair_r23.eq_1 := by_rfl f_law11_LeaseFair_r23.eq_1
theorem e_law11_LeaseFair_r24 : type_of% f_law11_LeaseFair_r24.eq_1 := by_rfl f_law11_LeaseFair_r24.eq_1
theorem e_law11_LeaseFair_r25 : type_of% f_law11_LeaseFair_r25.eq_1 := by_rfl f_law11_LeaseFair_r25.eq_1
theorem e_law11_LeaseFair_r26 : type_of% f_law11_LeaseFair_r26.eq_1 := by_rfl f_law11_LeaseFair_r26.eq_1
theorem e_law11_LeaseFair_l27 : type_of% f_law11_LeaseFair_l27.eq_1 := by_rfl f_law11_LeaseFair_l27.eq_1
theorem e_law11_LeaseFair_r28 : type_of% f_law11_LeaseFair_r28.eq_1 := by_rfl f_law11_LeaseFair_r28.eq_1
theorem e_law11_LeaseFair : type_of% f_law11_LeaseFair.eq_1 := by_rfl f_law11_LeaseFair.eq_1
theorem ok_law11_LeaseFair : fnC Try.prog a_law11_LeaseFair Try.f4 = some f_law11_LeaseFair := by kernel_rfl

/-! 5 fumarole/fumarolelaw11.LeaseEither -/
def f_law11_LeaseEither_r0 : List Abs.Op := [
  ⟨some 1, none, false, .boxi (.t 0)⟩,
  ⟨some 2, none, false, .mv (.c (.bool false))⟩]

def f_law11_LeaseEither_r1 : List Abs.Op := [
  ⟨some 10, none, false, .ld true 5 (.t 1)⟩,
  ⟨some 11, none, false, .call false (.c (.fn i_ref11_RightProgramme [] [])) [(.t 10)]⟩,
  ⟨some 12, none, false, .un .not (.t 11)⟩]

def f_law11_LeaseEither_r2 : List Abs.Op := [
  ⟨some 13, none, false, .call false (.c (.fn i_law11_wakes [] [])) []⟩,
  ⟨some 2, none, false, .mv (.t 13)⟩]

def f_law11_LeaseEither_r3 : List Abs.Op := [
  ⟨some 14, none, false, .ld true 5 (.t 1)⟩,
  ⟨some 15, none, false, .call false (.c (.fn i_law11_Programme [] [])) [(.t 14)]⟩,
  ⟨some 3, none, false, .alcv [] [(.int .i64 0), (.int .i64 0), (.int .i64 0), (.int .i64 0), .nils]⟩,
  ⟨none, none, false, .stv 3 [] 5 3 (.t 15)⟩]

def f_law11_LeaseEither_r4 : List Abs.Op := [
  ⟨some 17, none, false, .ldv 3 true 5 3⟩,
  ⟨some 18, none, false, .call false (.c (.fn i_lease_Drill [] [])) [(.t 17)]⟩,
  ⟨some 16, none, false, .mv (.t 18)⟩,
  ⟨some 19, none, false, .ext (.t 16) 0⟩,
  ⟨some 20, none, false, .ext (.t 16) 1⟩,
  ⟨some 21, none, false, .ext (.t 16) 2⟩,
  ⟨some 22, none, false, .ext (.t 16) 3⟩,
  ⟨some 4, none, false, .mv (.t 19)⟩,
  ⟨some 5, none, false, .mv (.t 20)⟩,
  ⟨some 6, none, false, .mv (.t 21)⟩,
  ⟨some 7, none, false, .mv (.t 22)⟩]

def f_law11_LeaseEither_r5 : List Abs.Op := [
  ⟨some 24, none, false, .ldv 3 true 5 3⟩,
  ⟨some 25, none, false, .call false (.c (.fn i_lease_Short [] [])) [(.t 24)]⟩,
  ⟨some 23, none, false, .mv (.t 25)⟩,
  ⟨some 26, none, false, .ext (.t 23) 0⟩,
  ⟨some 27, none, false, .ext (.t 23) 1⟩,
  ⟨some 8, none, false, .mv (.t 26)⟩,
  ⟨some 9, none, false, .mv (.t 27)⟩]

def f_law11_LeaseEither_r6 : List Abs.Op := [
  ⟨some 28, none, false, .mv (.t 7)⟩,
  ⟨some 29, none, false, .bin .eql (.t 28) (.c (.int .i64 0))⟩]

def f_law11_LeaseEither_r7 : List Abs.Op := [
  ⟨some 30, none, false, .mv (.t 9)⟩,
  ⟨some 31, none, false, .bin .eql (.t 30) (.c (.int .i64 7))⟩,
  ⟨some 32, none, false, .mv (.t 31)⟩,
  ⟨some 33, some (32, true), false, .call false (.c (.fn i_law11_wakes [] [])) []⟩,
  ⟨some 34, none, false, .pick (.t 32) (.t 33) (.c (.bool false))⟩,
  ⟨some 2, none, false, .mv (.t 34)⟩]

def f_law11_LeaseEither_r8 : List Abs.Op := [
  ⟨some 35, none, false, .mv (.t 7)⟩,
  ⟨some 36, none, false, .bin .neq (.t 35) (.c (.int .i64 7))⟩,
  ⟨some 37, none, false, .mv (.t 36)⟩,
  ⟨some 38, some (37, false), false, .mv (.t 9)⟩,
  ⟨some 39, some (37, false), false, .bin .neq (.t 38) (.c (.int .i64 0))⟩,
  ⟨some 40, none, false, .pick (.t 37) (.c (.bool true)) (.t 39)⟩,
  ⟨some 41, none, false, .mv (.t 40)⟩,
  ⟨some 42, some (41, false), false, .mv (.t 8)⟩,
  ⟨some 43, some (41, false), false, .bin .lss (.t 42) (.c (.int .i64 0))⟩,
  ⟨some 44, none, false, .pick (.t 41) (.c (.bool true)) (.t 43)⟩,
  ⟨some 45, none, false, .mv (.t 44)⟩,
  ⟨some 46, some (45, false), false, .mv (.t 8)⟩,
  ⟨some 47, some (45, false), false, .fadr 4 (.t 1)⟩,
  ⟨some 48, some (45, false), false, .ld false 1 (.t 47)⟩,
  ⟨some 49, some (45, false), false, .lenS (.t 48)⟩,
  ⟨some 50, some (45, false), false, .bin .geq (.t 46) (.t 49)⟩,
  ⟨some 51, none, false, .pick (.t 45) (.c (.bool true)) (.t 50)⟩]

def f_law11_LeaseEither_r9 : List Abs.Op := [
  ⟨some 2, none, false, .mv (.c (.bool false))⟩]

def f_law11_LeaseEither_r10 : List Abs.Op := [
  ⟨some 52, none, false, .mv (.t 8)⟩,
  ⟨some 53, none, false, .bin .eql (.t 52) (.c (.int .i64 0))⟩]

def f_law11_LeaseEither_r11 : List Abs.Op := [
  ⟨some 54, none, false, .call false (.c (.fn i_law11_wakes [] [])) []⟩,
  ⟨some 2, none, false, .mv (.t 54)⟩]

def f_law11_LeaseEither_r12 : List Abs.Op := [
  ⟨some 55, none, false, .fadr 4 (.t 3)⟩,
  ⟨some 56, none, false, .ldv 3 false 1 55⟩,
  ⟨some 57, none, false, .mv (.t 8)⟩,
  ⟨some 58, none, false, .slc 2 (.t 56) none (some (.t 57)) none⟩,
  ⟨some 59, none, false, .fadr 4 (.t 3)⟩,
  ⟨none, none, false, .stv 3 [] 1 59 (.t 58)⟩]

def f_law11_LeaseEither_r13 : List Abs.Op := [
  ⟨some 61, none, false, .ldv 3 true 5 3⟩,
  ⟨some 62, none, false, .call false (.c (.fn i_lease_Drill [] [])) [(.t 61)]⟩,
  ⟨some 60, none, false, .mv (.t 62)⟩,
  ⟨some 63, none, false, .ext (.t 60) 0⟩,
  ⟨some 64, none, false, .ext (.t 60) 1⟩,
  ⟨some 65, none, false, .ext (.t 60) 2⟩,
  ⟨some 66, none, false, .ext (.t 60) 3⟩,
  ⟨some 7, none, false, .mv (.t 66)⟩]

def f_law11_LeaseEither_r14 : List Abs.Op := [
  ⟨some 67, none, false, .mv (.t 7)⟩,
  ⟨some 68, none, false, .bin .eql (.t 67) (.c (.int .i64 0))⟩,
  ⟨some 69, none, false, .mv (.t 68)⟩,
  ⟨some 70, some (69, true), false, .call false (.c (.fn i_law11_wakes [] [])) []⟩,
  ⟨some 71, none, false, .pick (.t 69) (.t 70) (.c (.bool false))⟩,
  ⟨some 2, none, false, .mv (.t 71)⟩]

def a_law11_LeaseEither : Ann := ⟨[(14, [2]), (13, [7]), (12, [3]), (11, [2]), (10, [3, 8, 53]), (9, [2]), (8, [3, 8, 51]), (7, [2]), (6, [1, 3, 7, 8, 9, 29]), (5, [1, 3, 7, 8, 9]), (4, [1, 3, 7]), (3, [1, 3]), (2, [2]), (1, [1, 12]), (0, [1])], [], [], [3], [3], [], [], [], [], []⟩
def f_law11_LeaseEither : Abs.Fn := ⟨1, [.t 2],
  (.seq (.reg [1] f_law11_LeaseEither_r0) (.seq (.seq (.reg [1, 12] f_law11_LeaseEither_r1) (.ite (.t 12) (.seq (.reg [2] f_law11_LeaseEither_r2) .ret) .nop)) (.seq (.reg [1, 3] f_law11_LeaseEither_r3) (.seq (.reg [1, 3, 7] f_law11_LeaseEither_r4) (.seq (.reg [1, 3, 7, 8, 9] f_law11_LeaseEither_r5) (.seq (.seq (.reg [1, 3, 7, 8, 9, 29] f_law11_LeaseEither_r6) (.ite (.t 29) (.seq (.reg [2] f_law11_LeaseEither_r7) .ret) .nop)) (.seq (.seq (.reg [3, 8, 51] f_law11_LeaseEither_r8) (.ite (.t 51) (.seq (.reg [2] f_law11_LeaseEither_r9) .ret) .nop)) (.seq (.seq (.reg [3, 8, 53] f_law11_LeaseEither_r10) (.ite (.t 53) (.seq (.reg [2] f_law11_LeaseEither_r11) .ret) .nop)) (.seq (.reg [3] f_law11_LeaseEither_r12) (.seq (.reg [7] f_law11_LeaseEither_r13) (.seq (.reg [2] f_law11_LeaseEither_r14) .ret)))))))))))⟩

theorem e_law11_LeaseEither_r0 : type_of% f_law11_LeaseEither_r0.eq_1 := by_rfl f_law11_LeaseEither_r0.eq_1
theorem e_law11_LeaseEither_r1 : type_of% f_law11_LeaseEither_r1.eq_1 := by_rfl f_law11_LeaseEither_r1.eq_1
theorem e_law11_LeaseEither_r2 : type_of% f_law11_LeaseEither_r2.eq_1 := by_rfl f_law11_LeaseEither_r2.eq_1
theorem e_law11_LeaseEither_r3 : type_of% f_law11_LeaseEither_r3.eq_1 := by_rfl f_law11_LeaseEither_r3.eq_1
theorem e_law11_LeaseEither_r4 : type_of% f_law11_LeaseEither_r4.eq_1 := by_rfl f_law11_LeaseEither_r4.eq_1
theorem e_law11_LeaseEither_r5 : type_of% f_law11_LeaseEither_r5.eq_1 := by_rfl f_law11_LeaseEither_r5.eq_1
theorem e_law11_LeaseEither_r6 : type_of% f_law11_LeaseEither_r6.eq_1 := by_rfl f_law11_LeaseEither_r6.eq_1
theorem e_law11_LeaseEither_r7 : type_of% f_law11_LeaseEither_r7.eq_1 := by_rfl f_law11_LeaseEither_r7.eq_1
theorem e_law11_LeaseEither_r8 : type_of% f_law11_LeaseEither_r8.eq_1 := by_rfl f_law11_LeaseEither_r8.eq_1
theorem e_law11_LeaseEither_r9 : type_of% f_law11_LeaseEither_r9.eq_1 := by_rfl f_law11_LeaseEither_r9.eq_1
theorem e_law11_LeaseEither_r10 : type_of% f_law11_LeaseEither_r10.eq_1 := by_rfl f_law11_LeaseEither_r10.eq_1
theorem e_law11_LeaseEither_r11 : type_of% f_law11_LeaseEither_r11.eq_1 := by_rfl f_law11_LeaseEither_r11.eq_1
theorem e_law11_LeaseEither_r12 : type_of% f_law11_LeaseEither_r12.eq_1 := by_rfl f_law11_LeaseEither_r12.eq_1
theorem e_law11_LeaseEither_r13 : type_of% f_law11_LeaseEither_r13.eq_1 := by_rfl f_law11_LeaseEither_r13.eq_1
theorem e_law11_LeaseEither_r14 : type_of% f_law11_LeaseEither_r14.eq_1 := by_rfl f_law11_LeaseEither_r14.eq_1
theorem e_law11_LeaseEither : type_of% f_law11_LeaseEither.eq_1 := by_rfl f_law11_LeaseEither.eq_1
theorem ok_law11_LeaseEither : fnC Try.prog a_law11_LeaseEither Try.f5 = some f_law11_LeaseEither := by kernel_rfl

/-! 6 fumarole/fumarolelaw11.LeaseLeasts -/
def f_law11_LeaseLeasts_r0 : List Abs.Op := [
  ⟨some 3, none, false, .boxi (.t 0)⟩,
  ⟨some 6, none, false, .mv (.c (.bool false))⟩]

def f_law11_LeaseLeasts_r1 : List Abs.Op := [
  ⟨some 11, none, false, .fadr 4 (.t 3)⟩,
  ⟨some 12, none, false, .ld false 1 (.t 11)⟩,
  ⟨some 13, none, false, .lenS (.t 12)⟩,
  ⟨some 14, none, false, .bin .gtr (.t 13) (.c (.int .i64 12))⟩,
  ⟨some 15, none, false, .mv (.t 14)⟩,
  ⟨some 16, some (15, false), false, .ld true 5 (.t 3)⟩,
  ⟨some 17, some (15, false), false, .call false (.c (.fn i_ref11_RightProgramme [] [])) [(.t 16)]⟩,
  ⟨some 18, some (15, false), false, .mv (.t 17)⟩,
  ⟨some 19, some (18, true), false, .fadr 4 (.t 3)⟩,
  ⟨some 20, some (18, true), false, .ld false 1 (.t 19)⟩,
  ⟨some 21, some (18, true), false, .lenS (.t 20)⟩,
  ⟨some 22, some (18, true), false, .bin .gtr (.t 21) (.c (.int .i64 6))⟩,
  ⟨some 23, some (15, false), false, .pick (.t 18) (.t 22) (.c (.bool false))⟩,
  ⟨some 24, none, false, .pick (.t 15) (.c (.bool true)) (.t 23)⟩]

def f_law11_LeaseLeasts_r2 : List Abs.Op := [
  ⟨some 25, none, false, .call false (.c (.fn i_law11_wakes [] [])) []⟩,
  ⟨some 6, none, false, .mv (.t 25)⟩]

def f_law11_LeaseLeasts_r3 : List Abs.Op := [
  ⟨some 27, none, false, .ld true 5 (.t 3)⟩,
  ⟨some 28, none, false, .call false (.c (.fn i_law11_Programme [] [])) [(.t 27)]⟩,
  ⟨some 29, none, false, .mv (.t 1)⟩,
  ⟨some 30, none, false, .mv (.t 2)⟩,
  ⟨some 31, none, false, .call false (.c (.fn i_lease_Least [] [])) [(.t 28), (.t 29), (.t 30)]⟩,
  ⟨some 26, none, false, .mv (.t 31)⟩,
  ⟨some 32, none, false, .ext (.t 26) 0⟩,
  ⟨some 33, none, false, .ext (.t 26) 1⟩,
  ⟨some 7, none, false, .mv (.t 32)⟩,
  ⟨some 8, none, false, .mv (.t 33)⟩]

def f_law11_LeaseLeasts_r4 : List Abs.Op := [
  ⟨some 9, none, false, .mv (.c (.int .i64 0))⟩]

def f_law11_LeaseLeasts_r5 : List Abs.Op := [
  ⟨some 34, none, false, .ld true 5 (.t 3)⟩,
  ⟨some 35, none, false, .call false (.c (.fn i_ref11_RightProgramme [] [])) [(.t 34)]⟩,
  ⟨some 36, none, false, .un .not (.t 35)⟩]

def f_law11_LeaseLeasts_r6 : List Abs.Op := [
  ⟨some 9, none, false, .mv (.c (.int .i64 1))⟩]

def f_law11_LeaseLeasts_r7 : List Abs.Op := [
  ⟨some 37, none, false, .mv (.t 1)⟩,
  ⟨some 38, none, false, .fadr 4 (.t 3)⟩,
  ⟨some 39, none, false, .ld false 1 (.t 38)⟩,
  ⟨some 40, none, false, .lenS (.t 39)⟩,
  ⟨some 41, none, false, .call false (.c (.fn i_ref11_In [] [])) [(.t 37), (.c (.int .i64 0)), (.t 40)]⟩,
  ⟨some 42, none, false, .un .not (.t 41)⟩,
  ⟨some 43, none, false, .mv (.t 42)⟩,
  ⟨some 44, some (43, false), false, .mv (.t 2)⟩,
  ⟨some 45, some (43, false), false, .call false (.c (.fn i_ref11_In [] [])) [(.t 44), (.c (.int .i64 0)), (.c (.int .i64 100000000))]⟩,
  ⟨some 46, some (43, false), false, .un .not (.t 45)⟩,
  ⟨some 47, none, false, .pick (.t 43) (.c (.bool true)) (.t 46)⟩]

def f_law11_LeaseLeasts_r8 : List Abs.Op := [
  ⟨some 9, none, false, .mv (.c (.int .i64 2))⟩]

def f_law11_LeaseLeasts_r9 : List Abs.Op := [
  ⟨some 48, none, false, .mv (.t 9)⟩,
  ⟨some 49, none, false, .bin .neq (.t 48) (.c (.int .i64 0))⟩]

def f_law11_LeaseLeasts_r10 : List Abs.Op := [
  ⟨some 50, none, false, .mv (.t 8)⟩,
  ⟨some 51, none, false, .mv (.t 9)⟩,
  ⟨some 52, none, false, .bin .eql (.t 50) (.t 51)⟩,
  ⟨some 53, none, false, .mv (.t 52)⟩,
  ⟨some 54, some (53, true), false, .mv (.t 7)⟩,
  ⟨some 55, some (53, true), false, .bin .eql (.t 54) (.c (.int .i64 0))⟩,
  ⟨some 56, none, false, .pick (.t 53) (.t 55) (.c (.bool false))⟩,
  ⟨some 57, none, false, .mv (.t 56)⟩,
  ⟨some 58, some (57, true), false, .call false (.c (.fn i_law11_wakes [] [])) []⟩,
  ⟨some 59, none, false, .pick (.t 57) (.t 58) (.c (.bool false))⟩,
  ⟨some 6, none, false, .mv (.t 59)⟩]

def f_law11_LeaseLeasts_r11 : List Abs.Op := [
  ⟨some 60, none, false, .ld true 5 (.t 3)⟩,
  ⟨some 61, none, false, .mv (.t 1)⟩,
  ⟨some 62, none, false, .mv (.t 2)⟩,
  ⟨some 63, none, false, .call false (.c (.fn i_ref11_Least [] [])) [(.t 60), (.t 61), (.t 62)]⟩,
  ⟨some 10, none, false, .mv (.t 63)⟩]

def f_law11_LeaseLeasts_r12 : List Abs.Op := [
  ⟨some 64, none, false, .mv (.t 10)⟩,
  ⟨some 65, none, false, .bin .eql (.t 64) (.c (.int .i64 1000000000000))⟩]

def f_law11_LeaseLeasts_r13 : List Abs.Op := [
  ⟨some 66, none, false, .mv (.t 8)⟩,
  ⟨some 67, none, false, .bin .eql (.t 66) (.c (.int .i64 7))⟩,
  ⟨some 68, none, false, .mv (.t 67)⟩,
  ⟨some 69, some (68, true), false, .mv (.t 7)⟩,
  ⟨some 70, some (68, true), false, .bin .eql (.t 69) (.c (.int .i64 0))⟩,
  ⟨some 71, none, false, .pick (.t 68) (.t 70) (.c (.bool false))⟩,
  ⟨some 72, none, false, .mv (.t 71)⟩,
  ⟨some 73, some (72, true), false, .call false (.c (.fn i_law11_wakes [] [])) []⟩,
  ⟨some 74, none, false, .pick (.t 72) (.t 73) (.c (.bool false))⟩,
  ⟨some 6, none, false, .mv (.t 74)⟩]

def f_law11_LeaseLeasts_r14 : List Abs.Op := [
  ⟨some 75, none, false, .mv (.t 8)⟩,
  ⟨some 76, none, false, .bin .eql (.t 75) (.c (.int .i64 0))⟩,
  ⟨some 77, none, false, .mv (.t 76)⟩,
  ⟨some 78, some (77, true), false, .mv (.t 7)⟩,
  ⟨some 79, some (77, true), false, .mv (.t 10)⟩,
  ⟨some 80, some (77, true), false, .bin .eql (.t 78) (.t 79)⟩,
  ⟨some 81, none, false, .pick (.t 77) (.t 80) (.c (.bool false))⟩,
  ⟨some 82, none, false, .mv (.t 81)⟩,
  ⟨some 83, some (82, true), false, .call false (.c (.fn i_law11_wakes [] [])) []⟩,
  ⟨some 84, none, false, .pick (.t 82) (.t 83) (.c (.bool false))⟩,
  ⟨some 6, none, false, .mv (.t 84)⟩]

def a_law11_LeaseLeasts : Ann := ⟨[(14, [6]), (13, [6]), (12, [7, 8, 10, 65]), (11, [7, 8, 10]), (10, [6]), (9, [1, 2, 3, 7, 8, 9, 49]), (6, [1, 2, 3, 7, 8, 9]), (8, [1, 2, 3, 7, 8, 9]), (7, [1, 2, 3, 7, 8, 9, 47]), (5, [1, 2, 3, 7, 8, 9, 36]), (4, [1, 2, 3, 7, 8, 9]), (3, [1, 2, 3, 7, 8]), (2, [6]), (1, [1, 2, 3, 24]), (0, [1, 2, 3])], [], [], [], [], [], [], [], [], []⟩
def f_law11_LeaseLeasts : Abs.Fn := ⟨3, [.t 6],
  (.seq (.reg [1, 2, 3] f_law11_LeaseLeasts_r0) (.seq (.seq (.reg [1, 2, 3, 24] f_law11_LeaseLeasts_r1) (.ite (.t 24) (.seq (.reg [6] f_law11_LeaseLeasts_r2) .ret) .nop)) (.seq (.reg [1, 2, 3, 7, 8] f_law11_LeaseLeasts_r3) (.seq (.reg [1, 2, 3, 7, 8, 9] f_law11_LeaseLeasts_r4) (.seq (.seq (.reg [1, 2, 3, 7, 8, 9, 36] f_law11_LeaseLeasts_r5) (.ite (.t 36) (.reg [1, 2, 3, 7, 8, 9] f_law11_LeaseLeasts_r6) (.seq (.reg [1, 2, 3, 7, 8, 9, 47] f_law11_LeaseLeasts_r7) (.ite (.t 47) (.reg [1, 2, 3, 7, 8, 9] f_law11_LeaseLeasts_r8) .nop)))) (.seq (.seq (.reg [1, 2, 3, 7, 8, 9, 49] f_law11_LeaseLeasts_r9) (.ite (.t 49) (.seq (.reg [6] f_law11_LeaseLeasts_r10) .ret) .nop)) (.seq (.reg [7, 8, 10] f_law11_LeaseLeasts_r11) (.seq (.seq (.reg [7, 8, 10, 65] f_law11_LeaseLeasts_r12) (.ite (.t 65) (.seq (.reg [6] f_law11_LeaseLeasts_r13) .ret) .nop)) (.seq (.reg [6] f_law11_LeaseLeasts_r14) .ret)))))))))⟩

theorem e_law11_LeaseLeasts_r0 : type_of% f_law11_LeaseLeasts_r0.eq_1 := by_rfl f_law11_LeaseLeasts_r0.eq_1
theorem e_law11_LeaseLeasts_r1 : type_of% f_law11_LeaseLeasts_r1.eq_1 := by_rfl f_law11_LeaseLeasts_r1.eq_1
theorem e_law11_LeaseLeasts_r2 : type_of% f_law11_LeaseLeasts_r2.eq_1 := by_rfl f_law11_LeaseLeasts_r2.eq_1
theorem e_law11_LeaseLeasts_r3 : type_of% f_law11_LeaseLeasts_r3.eq_1 := by_rfl f_law11_LeaseLeasts_r3.eq_1
theorem e_law11_LeaseLeasts_r4 : type_of% f_law11_LeaseLeasts_r4.eq_1 := by_rfl f_law11_LeaseLeasts_r4.eq_1
theorem e_law11_LeaseLeasts_r5 : type_of% f_law11_LeaseLeasts_r5.eq_1 := by_rfl f_law11_LeaseLeasts_r5.eq_1
theorem e_law11_LeaseLeasts_r6 : type_of% f_law11_LeaseLeasts_r6.eq_1 := by_rfl f_law11_LeaseLeasts_r6.eq_1
theorem e_law11_LeaseLeasts_r7 : type_of% f_law11_LeaseLeasts_r7.eq_1 := by_rfl f_law11_LeaseLeasts_r7.eq_1
theorem e_law11_LeaseLeasts_r8 : type_of% f_law11_LeaseLeasts_r8.eq_1 := by_rfl f_law11_LeaseLeasts_r8.eq_1
theorem e_law11_LeaseLeasts_r9 : type_of% f_law11_LeaseLeasts_r9.eq_1 := by_rfl f_law11_LeaseLeasts_r9.eq_1
theorem e_law11_LeaseLeasts_r10 : type_of% f_law11_LeaseLeasts_r10.eq_1 := by_rfl f_law11_LeaseLeasts_r10.eq_1
theorem e_law11_LeaseLeasts_r11 : type_of% f_law11_LeaseLeasts_r11.eq_1 := by_rfl f_law11_LeaseLeasts_r11.eq_1
theorem e_law11_LeaseLeasts_r12 : type_of% f_law11_LeaseLeasts_r12.eq_1 := by_rfl f_law11_LeaseLeasts_r12.eq_1
theorem e_law11_LeaseLeasts_r13 : type_of% f_law11_LeaseLeasts_r13.eq_1 := by_rfl f_law11_LeaseLeasts_r13.eq_1
theorem e_law11_LeaseLeasts_r14 : type_of% f_law11_LeaseLeasts_r14.eq_1 := by_rfl f_law11_LeaseLeasts_r14.eq_1
theorem e_law11_LeaseLeasts : type_of% f_law11_LeaseLeasts.eq_1 := by_rfl f_law11_LeaseLeasts.eq_1
theorem ok_law11_LeaseLeasts : fnC Try.prog a_law11_LeaseLeasts Try.f6 = some f_law11_LeaseLeasts := by kernel_rfl

/-! 7 fumarole/fumarolelaw11.LeaseWider -/
def f_law11_LeaseWider_r0 : List Abs.Op := [
  ⟨some 4, none, false, .boxi (.t 0)⟩,
  ⟨some 8, none, false, .mv (.c (.bool false))⟩]

def f_law11_LeaseWider_r1 : List Abs.Op := [
  ⟨some 25, none, false, .ld true 5 (.t 4)⟩,
  ⟨some 26, none, false, .call false (.c (.fn i_ref11_RightProgramme [] [])) [(.t 25)]⟩,
  ⟨some 27, none, false, .un .not (.t 26)⟩]

def f_law11_LeaseWider_r2 : List Abs.Op := [
  ⟨some 28, none, false, .call false (.c (.fn i_law11_wakes [] [])) []⟩,
  ⟨some 8, none, false, .mv (.t 28)⟩]

def f_law11_LeaseWider_r3 : List Abs.Op := [
  ⟨some 29, none, false, .ld true 5 (.t 4)⟩,
  ⟨some 30, none, false, .call false (.c (.fn i_law11_Programme [] [])) [(.t 29)]⟩,
  ⟨some 9, none, false, .alcv [] [(.int .i64 0), (.int .i64 0), (.int .i64 0), (.int .i64 0), .nils]⟩,
  ⟨none, none, false, .stv 9 [] 5 9 (.t 30)⟩]

def f_law11_LeaseWider_r4 : List Abs.Op := [
  ⟨some 31, none, false, .mv (.t 1)⟩,
  ⟨some 32, none, false, .cvt .i64 (.t 31)⟩,
  ⟨some 33, none, false, .fadr 4 (.t 4)⟩,
  ⟨some 34, none, false, .ld false 1 (.t 33)⟩,
  ⟨some 35, none, false, .lenS (.t 34)⟩,
  ⟨some 36, none, false, .bin .add (.t 35) (.c (.int .i64 1))⟩,
  ⟨some 37, none, false, .bin .rem (.t 32) (.t 36)⟩,
  ⟨some 10, none, false, .mv (.t 37)⟩]

def f_law11_LeaseWider_r5 : List Abs.Op := [
  ⟨some 38, none, false, .mv (.t 2)⟩,
  ⟨some 39, none, false, .cvt .i64 (.t 38)⟩,
  ⟨some 40, none, false, .bin .rem (.t 39) (.c (.int .i64 50000000))⟩,
  ⟨some 11, none, false, .mv (.t 40)⟩]

def f_law11_LeaseWider_r6 : List Abs.Op := [
  ⟨some 42, none, false, .ldv 9 true 5 9⟩,
  ⟨some 43, none, false, .mv (.t 10)⟩,
  ⟨some 44, none, false, .mv (.t 11)⟩,
  ⟨some 45, none, false, .call false (.c (.fn i_lease_Least [] [])) [(.t 42), (.t 43), (.t 44)]⟩,
  ⟨some 41, none, false, .mv (.t 45)⟩,
  ⟨some 46, none, false, .ext (.t 41) 0⟩,
  ⟨some 47, none, false, .ext (.t 41) 1⟩,
  ⟨some 12, none, false, .mv (.t 46)⟩,
  ⟨some 13, none, false, .mv (.t 47)⟩]

def f_law11_LeaseWider_r7 : List Abs.Op := [
  ⟨some 49, none, false, .ldv 9 true 5 9⟩,
  ⟨some 50, none, false, .mv (.t 10)⟩,
  ⟨some 51, none, false, .mv (.t 11)⟩,
  ⟨some 52, none, false, .mv (.t 3)⟩,
  ⟨some 53, none, false, .cvt .i64 (.t 52)⟩,
  ⟨some 54, none, false, .bin .rem (.t 53) (.c (.int .i64 50000000))⟩,
  ⟨some 55, none, false, .bin .add (.t 51) (.t 54)⟩,
  ⟨some 56, none, false, .call false (.c (.fn i_lease_Least [] [])) [(.t 49), (.t 50), (.t 55)]⟩,
  ⟨some 48, none, false, .mv (.t 56)⟩,
  ⟨some 57, none, false, .ext (.t 48) 0⟩,
  ⟨some 58, none, false, .ext (.t 48) 1⟩,
  ⟨some 14, none, false, .mv (.t 57)⟩,
  ⟨some 15, none, false, .mv (.t 58)⟩]

def f_law11_LeaseWider_r8 : List Abs.Op := [
  ⟨some 59, none, false, .mv (.t 13)⟩,
  ⟨some 60, none, false, .bin .eql (.t 59) (.c (.int .i64 0))⟩,
  ⟨some 61, none, false, .mv (.t 60)⟩,
  ⟨some 62, some (61, true), false, .mv (.t 15)⟩,
  ⟨some 63, some (61, true), false, .bin .neq (.t 62) (.c (.int .i64 0))⟩,
  ⟨some 64, some (61, true), false, .mv (.t 63)⟩,
  ⟨some 65, some (64, false), false, .mv (.t 14)⟩,
  ⟨some 66, some (64, false), false, .mv (.t 12)⟩,
  ⟨some 67, some (64, false), false, .bin .gtr (.t 65) (.t 66)⟩,
  ⟨some 68, some (61, true), false, .pick (.t 64) (.c (.bool true)) (.t 67)⟩,
  ⟨some 69, none, false, .pick (.t 61) (.t 68) (.c (.bool false))⟩,
  ⟨some 70, none, false, .mv (.t 69)⟩,
  ⟨some 71, some (70, false), false, .mv (.t 13)⟩,
  ⟨some 72, some (70, false), false, .bin .neq (.t 71) (.c (.int .i64 0))⟩,
  ⟨some 73, some (70, false), false, .mv (.t 72)⟩,
  ⟨some 74, some (73, true), false, .mv (.t 13)⟩,
  ⟨some 75, some (73, true), false, .bin .neq (.t 74) (.c (.int .i64 7))⟩,
  ⟨some 76, some (70, false), false, .pick (.t 73) (.t 75) (.c (.bool false))⟩,
  ⟨some 77, none, false, .pick (.t 70) (.c (.bool true)) (.t 76)⟩]

def f_law11_LeaseWider_r9 : List Abs.Op := [
  ⟨some 8, none, false, .mv (.c (.bool false))⟩]

def f_law11_LeaseWider_r10 : List Abs.Op := [
  ⟨some 79, none, false, .ldv 9 true 5 9⟩,
  ⟨some 80, none, false, .call false (.c (.fn i_lease_Drill [] [])) [(.t 79)]⟩,
  ⟨some 78, none, false, .mv (.t 80)⟩,
  ⟨some 81, none, false, .ext (.t 78) 0⟩,
  ⟨some 82, none, false, .ext (.t 78) 1⟩,
  ⟨some 83, none, false, .ext (.t 78) 2⟩,
  ⟨some 84, none, false, .ext (.t 78) 3⟩,
  ⟨some 16, none, false, .mv (.t 81)⟩,
  ⟨some 17, none, false, .mv (.t 82)⟩,
  ⟨some 18, none, false, .mv (.t 83)⟩,
  ⟨some 19, none, false, .mv (.t 84)⟩]

def f_law11_LeaseWider_r11 : List Abs.Op := [
  ⟨some 86, none, false, .ldv 9 true 5 9⟩,
  ⟨some 87, none, false, .fadr 0 (.t 4)⟩,
  ⟨some 88, none, false, .ld false 1 (.t 87)⟩,
  ⟨some 89, none, false, .call false (.c (.fn i_lease_Least [] [])) [(.t 86), (.c (.int .i64 0)), (.t 88)]⟩,
  ⟨some 85, none, false, .mv (.t 89)⟩,
  ⟨some 90, none, false, .ext (.t 85) 0⟩,
  ⟨some 91, none, false, .ext (.t 85) 1⟩,
  ⟨some 20, none, false, .mv (.t 90)⟩,
  ⟨some 21, none, false, .mv (.t 91)⟩]

def f_law11_LeaseWider_r12 : List Abs.Op := [
  ⟨some 92, none, false, .mv (.t 19)⟩,
  ⟨some 93, none, false, .mv (.t 21)⟩,
  ⟨some 94, none, false, .bin .neq (.t 92) (.t 93)⟩,
  ⟨some 95, none, false, .mv (.t 94)⟩,
  ⟨some 96, some (95, false), false, .mv (.t 19)⟩,
  ⟨some 97, some (95, false), false, .bin .eql (.t 96) (.c (.int .i64 0))⟩,
  ⟨some 98, some (95, false), false, .mv (.t 97)⟩,
  ⟨some 99, some (98, true), false, .mv (.t 17)⟩,
  ⟨some 100, some (98, true), false, .mv (.t 20)⟩,
  ⟨some 101, some (98, true), false, .bin .neq (.t 99) (.t 100)⟩,
  ⟨some 102, some (95, false), false, .pick (.t 98) (.t 101) (.c (.bool false))⟩,
  ⟨some 103, none, false, .pick (.t 95) (.c (.bool true)) (.t 102)⟩]

def f_law11_LeaseWider_r13 : List Abs.Op := [
  ⟨some 8, none, false, .mv (.c (.bool false))⟩]

def f_law11_LeaseWider_r14 : List Abs.Op := [
  ⟨some 104, none, false, .fadr 3 (.t 4)⟩,
  ⟨some 105, none, false, .ld false 1 (.t 104)⟩,
  ⟨some 106, none, false, .bin .eql (.t 105) (.c (.int .i64 3))⟩]

def f_law11_LeaseWider_r15 : List Abs.Op := [
  ⟨some 107, none, false, .call false (.c (.fn i_law11_wakes [] [])) []⟩,
  ⟨some 8, none, false, .mv (.t 107)⟩]

def f_law11_LeaseWider_r16 : List Abs.Op := [
  ⟨some 108, none, false, .fadr 3 (.t 9)⟩,
  ⟨some 109, none, false, .ldv 9 false 1 108⟩,
  ⟨some 110, none, false, .bin .add (.t 109) (.c (.int .i64 1))⟩,
  ⟨some 111, none, false, .fadr 3 (.t 9)⟩,
  ⟨none, none, false, .stv 9 [] 1 111 (.t 110)⟩]

def f_law11_LeaseWider_r17 : List Abs.Op := [
  ⟨some 113, none, false, .ldv 9 true 5 9⟩,
  ⟨some 114, none, false, .call false (.c (.fn i_lease_Drill [] [])) [(.t 113)]⟩,
  ⟨some 112, none, false, .mv (.t 114)⟩,
  ⟨some 115, none, false, .ext (.t 112) 0⟩,
  ⟨some 116, none, false, .ext (.t 112) 1⟩,
  ⟨some 117, none, false, .ext (.t 112) 2⟩,
  ⟨some 118, none, false, .ext (.t 112) 3⟩,
  ⟨some 22, none, false, .mv (.t 115)⟩,
  ⟨some 23, none, false, .mv (.t 116)⟩,
  ⟨some 24, none, false, .mv (.t 117)⟩,
  ⟨some 21, none, false, .mv (.t 118)⟩]

def f_law11_LeaseWider_r18 : List Abs.Op := [
  ⟨some 119, none, false, .mv (.t 19)⟩,
  ⟨some 120, none, false, .bin .neq (.t 119) (.c (.int .i64 0))⟩,
  ⟨some 121, none, false, .mv (.t 120)⟩,
  ⟨some 122, some (121, false), false, .mv (.t 21)⟩,
  ⟨some 123, some (121, false), false, .bin .eql (.t 122) (.c (.int .i64 0))⟩,
  ⟨some 124, some (121, false), false, .mv (.t 123)⟩,
  ⟨some 125, some (124, true), false, .mv (.t 23)⟩,
  ⟨some 126, some (124, true), false, .mv (.t 17)⟩,
  ⟨some 127, some (124, true), false, .bin .leq (.t 125) (.t 126)⟩,
  ⟨some 128, some (121, false), false, .pick (.t 124) (.t 127) (.c (.bool false))⟩,
  ⟨some 129, none, false, .pick (.t 121) (.c (.bool true)) (.t 128)⟩,
  ⟨some 130, none, false, .mv (.t 129)⟩,
  ⟨some 131, some (130, true), false, .call false (.c (.fn i_law11_wakes [] [])) []⟩,
  ⟨some 132, none, false, .pick (.t 130) (.t 131) (.c (.bool false))⟩,
  ⟨some 8, none, false, .mv (.t 132)⟩]

def a_law11_LeaseWider : Ann := ⟨[(18, [8]), (17, [17, 19, 21, 23]), (16, [9, 17, 19]), (15, [8]), (14, [9, 17, 19, 106]), (13, [8]), (12, [4, 9, 17, 19, 103]), (11, [4, 9, 17, 19, 20, 21]), (10, [4, 9, 17, 19]), (9, [8]), (8, [4, 9, 77]), (7, [4, 9, 12, 13, 14, 15]), (6, [3, 4, 9, 10, 11, 12, 13]), (5, [3, 4, 9, 10, 11]), (4, [2, 3, 4, 9, 10]), (3, [1, 2, 3, 4, 9]), (2, [8]), (1, [1, 2, 3, 4, 27]), (0, [1, 2, 3, 4])], [], [], [9], [9], [], [], [], [], []⟩
def f_law11_LeaseWider : Abs.Fn := ⟨4, [.t 8],
  (.seq (.reg [1, 2, 3, 4] f_law11_LeaseWider_r0) (.seq (.seq (.reg [1, 2, 3, 4, 27] f_law11_LeaseWider_r1) (.ite (.t 27) (.seq (.reg [8] f_law11_LeaseWider_r2) .ret) .nop)) (.seq (.reg [1, 2, 3, 4, 9] f_law11_LeaseWider_r3) (.seq (.reg [2, 3, 4, 9, 10] f_law11_LeaseWider_r4) (.seq (.reg [3, 4, 9, 10, 11] f_law11_LeaseWider_r5) (.seq (.reg [3, 4, 9, 10, 11, 12, 13] f_law11_LeaseWider_r6) (.seq (.reg [4, 9, 12, 13, 14, 15] f_law11_LeaseWider_r7) (.seq (.seq (.reg [4, 9, 77] f_law11_LeaseWider_r8) (.ite (.t 77) (.seq (.reg [8] f_law11_LeaseWider_r9) .ret) .nop)) (.seq (.reg [4, 9, 17, 19] f_law11_LeaseWider_r10) (.seq (.reg [4, 9, 17, 19, 20, 21] f_law11_LeaseWider_r11) (.seq (.seq (.reg [4, 9, 17, 19, 103] f_law11_LeaseWider_r12) (.ite (.t 103) (.seq (.reg [8] f_law11_LeaseWider_r13) .ret) .nop)) (.seq (.seq (.reg [9, 17, 19, 106] f_law11_LeaseWider_r14) (.ite (.t 106) (.seq (.reg [8] f_law11_LeaseWider_r15) .ret) .nop)) (.seq (.reg [9, 17, 19] f_law11_LeaseWider_r16) (.seq (.reg [17, 19, 21, 23] f_law11_LeaseWider_r17) (.seq (.reg [8] f_law11_LeaseWider_r18) .ret)))))))))))))))⟩

theorem e_law11_LeaseWider_r0 : type_of% f_law11_LeaseWider_r0.eq_1 := by_rfl f_law11_LeaseWider_r0.eq_1
theorem e_law11_LeaseWider_r1 : type_of% f_law11_LeaseWider_r1.eq_1 := by_rfl f_law11_LeaseWider_r1.eq_1
theorem e_law11_LeaseWider_r2 : type_of% f_law11_LeaseWider_r2.eq_1 := by_rfl f_law11_LeaseWider_r2.eq_1
theorem e_law11_LeaseWider_r3 : type_of% f_law11_LeaseWider_r3.eq_1 := by_rfl f_law11_LeaseWider_r3.eq_1
theorem e_law11_LeaseWider_r4 : type_of% f_law11_LeaseWider_r4.eq_1 := by_rfl f_law11_LeaseWider_r4.eq_1
theorem e_law11_LeaseWider_r5 : type_of% f_law11_LeaseWider_r5.eq_1 := by_rfl f_law11_LeaseWider_r5.eq_1
theorem e_law11_LeaseWider_r6 : type_of% f_law11_LeaseWider_r6.eq_1 := by_rfl f_law11_LeaseWider_r6.eq_1
theorem e_law11_LeaseWider_r7 : type_of% f_law11_LeaseWider_r7.eq_1 := by_rfl f_law11_LeaseWider_r7.eq_1
theorem e_law11_LeaseWider_r8 : type_of% f_law11_LeaseWider_r8.eq_1 := by_rfl f_law11_LeaseWider_r8.eq_1
theorem e_law11_LeaseWider_r9 : type_of% f_law11_LeaseWider_r9.eq_1 := by_rfl f_law11_LeaseWider_r9.eq_1
theorem e_law11_LeaseWider_r10 : type_of% f_law11_LeaseWider_r10.eq_1 := by_rfl f_law11_LeaseWider_r10.eq_1
theorem e_law11_LeaseWider_r11 : type_of% f_law11_LeaseWider_r11.eq_1 := by_rfl f_law11_LeaseWider_r11.eq_1
theorem e_law11_LeaseWider_r12 : type_of% f_law11_LeaseWider_r12.eq_1 := by_rfl f_law11_LeaseWider_r12.eq_1
theorem e_law11_LeaseWider_r13 : type_of% f_law11_LeaseWider_r13.eq_1 := by_rfl f_law11_LeaseWider_r13.eq_1
theorem e_law11_LeaseWider_r14 : type_of% f_law11_LeaseWider_r14.eq_1 := by_rfl f_law11_LeaseWider_r14.eq_1
theorem e_law11_LeaseWider_r15 : type_of% f_law11_LeaseWider_r15.eq_1 := by_rfl f_law11_LeaseWider_r15.eq_1
theorem e_law11_LeaseWider_r16 : type_of% f_law11_LeaseWider_r16.eq_1 := by_rfl f_law11_LeaseWider_r16.eq_1
theorem e_law11_LeaseWider_r17 : type_of% f_law11_LeaseWider_r17.eq_1 := by_rfl f_law11_LeaseWider_r17.eq_1
theorem e_law11_LeaseWider_r18 : type_of% f_law11_LeaseWider_r18.eq_1 := by_rfl f_law11_LeaseWider_r18.eq_1
theorem e_law11_LeaseWider : type_of% f_law11_LeaseWider.eq_1 := by_rfl f_law11_LeaseWider.eq_1
theorem ok_law11_LeaseWider : fnC Try.prog a_law11_LeaseWider Try.f7 = some f_law11_LeaseWider := by kernel_rfl

/-! 8 fumarole/fumarolelaw11.LeaseSafe -/
def f_law11_LeaseSafe_r0 : List Abs.Op := [
  ⟨some 8, none, false, .mv (.c (.bool false))⟩]

def f_law11_LeaseSafe_r1 : List Abs.Op := [
  ⟨some 24, none, false, .mv (.t 0)⟩,
  ⟨some 25, none, false, .call false (.c (.fn i_law11_some [] [])) [(.t 24)]⟩,
  ⟨some 26, none, false, .un .not (.t 25)⟩,
  ⟨some 27, none, false, .mv (.t 26)⟩,
  ⟨some 28, some (27, false), false, .mv (.t 1)⟩,
  ⟨some 29, some (27, false), false, .lenS (.t 28)⟩,
  ⟨some 30, some (27, false), false, .bin .gtr (.t 29) (.c (.int .i64 30))⟩,
  ⟨some 31, none, false, .pick (.t 27) (.c (.bool true)) (.t 30)⟩,
  ⟨some 32, none, false, .mv (.t 31)⟩,
  ⟨some 33, some (32, false), false, .mv (.t 0)⟩,
  ⟨some 34, some (32, false), false, .call false (.c (.fn i_ref11_Springs [] [])) [(.t 33)]⟩,
  ⟨some 35, some (32, false), false, .un .not (.t 34)⟩,
  ⟨some 36, none, false, .pick (.t 32) (.c (.bool true)) (.t 35)⟩,
  ⟨some 37, none, false, .mv (.t 36)⟩,
  ⟨some 38, some (37, false), false, .mv (.t 0)⟩,
  ⟨some 39, some (37, false), false, .mv (.t 1)⟩,
  ⟨some 40, some (37, false), false, .call false (.c (.fn i_ref11_Takes [] [])) [(.t 38), (.t 39)]⟩,
  ⟨some 41, some (37, false), false, .un .not (.t 40)⟩,
  ⟨some 42, none, false, .pick (.t 37) (.c (.bool true)) (.t 41)⟩,
  ⟨some 43, none, false, .mv (.t 42)⟩,
  ⟨some 44, some (43, false), false, .mv (.t 3)⟩,
  ⟨some 45, some (43, false), false, .lenS (.t 44)⟩,
  ⟨some 46, some (43, false), false, .bin .eql (.t 45) (.c (.int .i64 0))⟩,
  ⟨some 47, none, false, .pick (.t 43) (.c (.bool true)) (.t 46)⟩]

def f_law11_LeaseSafe_r2 : List Abs.Op := [
  ⟨some 48, none, false, .call false (.c (.fn i_law11_wakes [] [])) []⟩,
  ⟨some 8, none, false, .mv (.t 48)⟩]

def f_law11_LeaseSafe_r3 : List Abs.Op := [
  ⟨some 49, none, false, .mv (.t 0)⟩,
  ⟨some 50, none, false, .call false (.c (.fn i_law11_Springs [] [])) [(.t 49)]⟩,
  ⟨some 9, none, false, .mv (.t 50)⟩]

def f_law11_LeaseSafe_r4 : List Abs.Op := [
  ⟨some 52, none, false, .mv (.t 9)⟩,
  ⟨some 53, none, false, .mv (.t 1)⟩,
  ⟨some 54, none, false, .call false (.c (.fn i_law11_list [] [])) [(.t 53)]⟩,
  ⟨some 55, none, false, .call false (.c (.fn i_lease_Behind [] [])) [(.t 52), (.t 54)]⟩,
  ⟨some 51, none, false, .mv (.t 55)⟩,
  ⟨some 56, none, false, .ext (.t 51) 0⟩,
  ⟨some 57, none, false, .ext (.t 51) 1⟩,
  ⟨some 10, none, false, .mv (.t 56)⟩,
  ⟨some 11, none, false, .mv (.t 57)⟩]

def f_law11_LeaseSafe_r5 : List Abs.Op := [
  ⟨some 59, none, false, .mv (.t 9)⟩,
  ⟨some 60, none, false, .mv (.t 1)⟩,
  ⟨some 61, none, false, .call false (.c (.fn i_law11_list [] [])) [(.t 60)]⟩,
  ⟨some 62, none, false, .call false (.c (.fn i_lease_Harmed [] [])) [(.t 59), (.t 61)]⟩,
  ⟨some 58, none, false, .mv (.t 62)⟩,
  ⟨some 63, none, false, .ext (.t 58) 0⟩,
  ⟨some 64, none, false, .ext (.t 58) 1⟩,
  ⟨some 65, none, false, .ext (.t 58) 2⟩,
  ⟨some 12, none, false, .mv (.t 63)⟩,
  ⟨some 13, none, false, .mv (.t 64)⟩,
  ⟨some 14, none, false, .mv (.t 65)⟩]

def f_law11_LeaseSafe_r6 : List Abs.Op := [
  ⟨some 66, none, false, .mv (.t 11)⟩,
  ⟨some 67, none, false, .bin .neq (.t 66) (.c (.int .i64 0))⟩,
  ⟨some 68, none, false, .mv (.t 67)⟩,
  ⟨some 69, some (68, false), false, .mv (.t 14)⟩,
  ⟨some 70, some (68, false), false, .bin .neq (.t 69) (.c (.int .i64 0))⟩,
  ⟨some 71, none, false, .pick (.t 68) (.c (.bool true)) (.t 70)⟩,
  ⟨some 72, none, false, .mv (.t 71)⟩,
  ⟨some 73, some (72, false), false, .mv (.t 10)⟩,
  ⟨some 74, some (72, false), false, .lenS (.t 73)⟩,
  ⟨some 75, some (72, false), false, .mv (.t 0)⟩,
  ⟨some 76, some (72, false), false, .lenS (.t 75)⟩,
  ⟨some 77, some (72, false), false, .bin .neq (.t 74) (.t 76)⟩,
  ⟨some 78, none, false, .pick (.t 72) (.c (.bool true)) (.t 77)⟩]

def f_law11_LeaseSafe_r7 : List Abs.Op := [
  ⟨some 8, none, false, .mv (.c (.bool false))⟩]

def f_law11_LeaseSafe_r8 : List Abs.Op := [
  ⟨some 15, none, false, .mv (.c (.int .i64 0))⟩]

def f_law11_LeaseSafe_r9 : List Abs.Op := [
  ⟨some 79, none, false, .mv (.t 15)⟩,
  ⟨some 80, none, false, .mv (.t 0)⟩,
  ⟨some 81, none, false, .lenS (.t 80)⟩,
  ⟨some 82, none, false, .bin .lss (.t 79) (.t 81)⟩]

def f_law11_LeaseSafe_r10 : List Abs.Op := [
  ⟨some 85, none, false, .mv (.t 0)⟩,
  ⟨some 86, none, false, .mv (.t 15)⟩,
  ⟨some 87, none, false, .idxS 3 (.t 85) (.t 86)⟩,
  ⟨some 88, none, false, .fadr 0 (.t 87)⟩,
  ⟨some 89, none, false, .ld false 1 (.t 88)⟩,
  ⟨some 90, none, false, .bin .mul (.c (.int .i64 1000)) (.t 89)⟩,
  ⟨some 16, none, false, .mv (.t 90)⟩]

def f_law11_LeaseSafe_r11 : List Abs.Op := [
  ⟨some 17, none, false, .mv (.c (.int .i64 0))⟩]

def f_law11_LeaseSafe_r12 : List Abs.Op := [
  ⟨some 91, none, false, .mv (.t 17)⟩,
  ⟨some 92, none, false, .mv (.t 1)⟩,
  ⟨some 93, none, false, .lenS (.t 92)⟩,
  ⟨some 94, none, false, .bin .lss (.t 91) (.t 93)⟩]

def f_law11_LeaseSafe_r13 : List Abs.Op := [
  ⟨some 97, none, false, .mv (.t 0)⟩,
  ⟨some 98, none, false, .mv (.t 15)⟩,
  ⟨some 99, none, false, .idxS 3 (.t 97) (.t 98)⟩,
  ⟨some 100, none, false, .fadr 2 (.t 99)⟩,
  ⟨some 101, none, false, .ld false 1 (.t 100)⟩,
  ⟨some 102, none, false, .mv (.t 17)⟩,
  ⟨some 103, none, false, .idxS 2 (.t 101) (.t 102)⟩,
  ⟨some 104, none, false, .ld true 2 (.t 103)⟩,
  ⟨some 18, none, false, .alcv [] [(.int .i64 0), (.int .i64 0)]⟩,
  ⟨none, none, false, .stv 18 [] 2 18 (.t 104)⟩]

def f_law11_LeaseSafe_r14 : List Abs.Op := [
  ⟨some 105, none, true, .mv (.t 16)⟩,
  ⟨some 106, none, true, .mv (.t 1)⟩,
  ⟨some 107, none, true, .mv (.t 17)⟩,
  ⟨some 108, none, true, .idxS 1 (.t 106) (.t 107)⟩,
  ⟨some 109, none, true, .ld false 1 (.t 108)⟩,
  ⟨some 110, none, true, .fadr 0 (.t 18)⟩,
  ⟨some 111, none, true, .ldv 18 false 1 110⟩,
  ⟨some 112, none, true, .mv (.t 3)⟩,
  ⟨some 113, none, true, .mv (.t 15)⟩,
  ⟨some 114, none, true, .mv (.t 17)⟩,
  ⟨some 115, none, true, .bin .add (.t 113) (.t 114)⟩,
  ⟨some 116, none, true, .mv (.t 3)⟩,
  ⟨some 117, none, true, .lenS (.t 116)⟩,
  ⟨some 118, none, true, .bin .rem (.t 115) (.t 117)⟩,
  ⟨some 119, none, true, .idxS 1 (.t 112) (.t 118)⟩,
  ⟨some 120, none, true, .ld false 1 (.t 119)⟩,
  ⟨some 121, none, true, .cvt .i64 (.t 120)⟩,
  ⟨some 122, none, true, .fadr 1 (.t 18)⟩,
  ⟨some 123, none, true, .ldv 18 false 1 122⟩,
  ⟨some 124, none, true, .fadr 0 (.t 18)⟩,
  ⟨some 125, none, true, .ldv 18 false 1 124⟩,
  ⟨some 126, none, true, .bin .sub (.t 123) (.t 125)⟩,
  ⟨some 127, none, true, .bin .add (.t 126) (.c (.int .i64 1))⟩,
  ⟨some 128, none, true, .bin .rem (.t 121) (.t 127)⟩,
  ⟨some 129, none, true, .bin .add (.t 111) (.t 128)⟩,
  ⟨some 130, none, true, .bin .mul (.t 109) (.t 129)⟩,
  ⟨some 131, none, false, .bin .sub (.t 105) (.t 130)⟩,
  ⟨some 16, none, false, .mv (.t 131)⟩]

def f_law11_LeaseSafe_r15 : List Abs.Op := [
  ⟨some 95, none, false, .mv (.t 17)⟩,
  ⟨some 96, none, false, .bin .add (.t 95) (.c (.int .i64 1))⟩,
  ⟨some 17, none, false, .mv (.t 96)⟩]

def f_law11_LeaseSafe_l16 : Abs.Cmd :=
  (.seq (.seq (.reg [0, 1, 2, 3, 9, 10, 12, 13, 15, 16, 17, 94] f_law11_LeaseSafe_r12) (.ite (.t 94) .nop (.exit 2))) (.seq (.blk 3 (.seq (.reg [0, 1, 2, 3, 9, 10, 12, 13, 15, 16, 17, 18] f_law11_LeaseSafe_r13) (.reg [0, 1, 2, 3, 9, 10, 12, 13, 15, 16, 17] f_law11_LeaseSafe_r14))) (.reg [0, 1, 2, 3, 9, 10, 12, 13, 15, 16, 17] f_law11_LeaseSafe_r15)))

def f_law11_LeaseSafe_r17 : List Abs.Op := [
  ⟨some 132, none, false, .mv (.t 16)⟩,
  ⟨some 133, none, false, .mv (.t 10)⟩,
  ⟨some 134, none, false, .mv (.t 15)⟩,
  ⟨some 135, none, false, .idxS 2 (.t 133) (.t 134)⟩,
  ⟨some 136, none, false, .fadr 0 (.t 135)⟩,
  ⟨some 137, none, false, .ld false 1 (.t 136)⟩,
  ⟨some 138, none, false, .bin .lss (.t 132) (.t 137)⟩,
  ⟨some 139, none, false, .mv (.t 138)⟩,
  ⟨some 140, some (139, false), false, .mv (.t 16)⟩,
  ⟨some 141, some (139, false), false, .mv (.t 10)⟩,
  ⟨some 142, some (139, false), false, .mv (.t 15)⟩,
  ⟨some 143, some (139, false), false, .idxS 2 (.t 141) (.t 142)⟩,
  ⟨some 144, some (139, false), false, .fadr 1 (.t 143)⟩,
  ⟨some 145, some (139, false), false, .ld false 1 (.t 144)⟩,
  ⟨some 146, some (139, false), false, .bin .gtr (.t 140) (.t 145)⟩,
  ⟨some 147, none, false, .pick (.t 139) (.c (.bool true)) (.t 146)⟩,
  ⟨some 148, none, false, .mv (.t 147)⟩,
  ⟨some 149, some (148, false), false, .mv (.t 13)⟩,
  ⟨some 150, some (148, false), false, .mv (.t 15)⟩,
  ⟨some 151, some (148, false), false, .call false (.c (.fn i_law11_has [] [])) [(.t 149), (.t 150)]⟩,
  ⟨some 152, some (148, false), false, .mv (.t 151)⟩,
  ⟨some 153, some (152, true), false, .mv (.t 16)⟩,
  ⟨some 154, some (152, true), false, .mv (.t 0)⟩,
  ⟨some 155, some (152, true), false, .mv (.t 15)⟩,
  ⟨some 156, some (152, true), false, .idxS 3 (.t 154) (.t 155)⟩,
  ⟨some 157, some (152, true), false, .fadr 1 (.t 156)⟩,
  ⟨some 158, some (152, true), false, .ld false 1 (.t 157)⟩,
  ⟨some 159, some (152, true), false, .bin .mul (.c (.int .i64 1000)) (.t 158)⟩,
  ⟨some 160, some (152, true), false, .bin .geq (.t 153) (.t 159)⟩,
  ⟨some 161, some (152, true), false, .mv (.t 160)⟩,
  ⟨some 162, some (161, false), false, .mv (.t 12)⟩,
  ⟨some 163, some (161, false), false, .mv (.t 15)⟩,
  ⟨some 164, some (161, false), false, .call false (.c (.fn i_law11_has [] [])) [(.t 162), (.t 163)]⟩,
  ⟨some 165, some (161, false), false, .un .not (.t 164)⟩,
  ⟨some 166, some (152, true), false, .pick (.t 161) (.c (.bool true)) (.t 165)⟩,
  ⟨some 167, some (148, false), false, .pick (.t 152) (.t 166) (.c (.bool false))⟩,
  ⟨some 168, none, false, .pick (.t 148) (.c (.bool true)) (.t 167)⟩,
  ⟨some 169, none, false, .mv (.t 168)⟩,
  ⟨some 170, some (169, false), false, .mv (.t 12)⟩,
  ⟨some 171, some (169, false), false, .mv (.t 15)⟩,
  ⟨some 172, some (169, false), false, .call false (.c (.fn i_law11_has [] [])) [(.t 170), (.t 171)]⟩,
  ⟨some 173, some (169, false), false, .un .not (.t 172)⟩,
  ⟨some 174, some (169, false), false, .mv (.t 173)⟩,
  ⟨some 175, some (174, true), false, .mv (.t 16)⟩,
  ⟨some 176, some (174, true), false, .mv (.t 0)⟩,
  ⟨some 177, some (174, true), false, .mv (.t 15)⟩,
  ⟨some 178, some (174, true), false, .idxS 3 (.t 176) (.t 177)⟩,
  ⟨some 179, some (174, true), false, .fadr 1 (.t 178)⟩,
  ⟨some 180, some (174, true), false, .ld false 1 (.t 179)⟩,
  ⟨some 181, some (174, true), false, .bin .mul (.c (.int .i64 1000)) (.t 180)⟩,
  ⟨some 182, some (174, true), false, .bin .lss (.t 175) (.t 181)⟩,
  ⟨some 183, some (169, false), false, .pick (.t 174) (.t 182) (.c (.bool false))⟩,
  ⟨some 184, none, false, .pick (.t 169) (.c (.bool true)) (.t 183)⟩]

def f_law11_LeaseSafe_r18 : List Abs.Op := [
  ⟨some 8, none, false, .mv (.c (.bool false))⟩]

def f_law11_LeaseSafe_r19 : List Abs.Op := [
  ⟨some 83, none, false, .mv (.t 15)⟩,
  ⟨some 84, none, false, .bin .add (.t 83) (.c (.int .i64 1))⟩,
  ⟨some 15, none, false, .mv (.t 84)⟩]

def f_law11_LeaseSafe_l20 : Abs.Cmd :=
  (.seq (.seq (.reg [0, 1, 2, 3, 9, 10, 12, 13, 15, 82] f_law11_LeaseSafe_r9) (.ite (.t 82) .nop (.exit 0))) (.seq (.blk 1 (.seq (.reg [0, 1, 2, 3, 9, 10, 12, 13, 15, 16] f_law11_LeaseSafe_r10) (.seq (.seq (.reg [0, 1, 2, 3, 9, 10, 12, 13, 15, 16, 17] f_law11_LeaseSafe_r11) (.blk 2 (.loop [0, 1, 2, 3, 9, 10, 12, 13, 15, 16, 17] false f_law11_LeaseSafe_l16))) (.seq (.reg [0, 1, 2, 3, 9, 10, 12, 13, 15, 184] f_law11_LeaseSafe_r17) (.ite (.t 184) (.seq (.reg [8] f_law11_LeaseSafe_r18) .ret) .nop))))) (.reg [0, 1, 2, 3, 9, 10, 12, 13, 15] f_law11_LeaseSafe_r19)))

def f_law11_LeaseSafe_r21 : List Abs.Op := [
  ⟨some 185, none, false, .mv (.t 2)⟩,
  ⟨some 186, none, false, .cvt .i64 (.t 185)⟩,
  ⟨some 187, none, false, .mv (.t 1)⟩,
  ⟨some 188, none, false, .lenS (.t 187)⟩,
  ⟨some 189, none, false, .bin .rem (.t 186) (.t 188)⟩,
  ⟨some 19, none, false, .mv (.t 189)⟩]

def f_law11_LeaseSafe_r22 : List Abs.Op := [
  ⟨some 191, none, false, .mv (.t 9)⟩,
  ⟨some 192, none, false, .mv (.t 1)⟩,
  ⟨some 193, none, false, .call false (.c (.fn i_law11_list [] [])) [(.t 192)]⟩,
  ⟨some 194, none, false, .mv (.t 19)⟩,
  ⟨some 195, none, false, .call false (.c (.fn i_lease_Room [] [])) [(.t 191), (.t 193), (.t 194)]⟩,
  ⟨some 190, none, false, .mv (.t 195)⟩,
  ⟨some 196, none, false, .ext (.t 190) 0⟩,
  ⟨some 197, none, false, .ext (.t 190) 1⟩,
  ⟨some 20, none, false, .mv (.t 196)⟩,
  ⟨some 11, none, false, .mv (.t 197)⟩]

def f_law11_LeaseSafe_r23 : List Abs.Op := [
  ⟨some 198, none, false, .mv (.t 12)⟩,
  ⟨some 199, none, false, .lenS (.t 198)⟩,
  ⟨some 200, none, false, .bin .gtr (.t 199) (.c (.int .i64 0))⟩]

def f_law11_LeaseSafe_r24 : List Abs.Op := [
  ⟨some 201, none, false, .mv (.t 11)⟩,
  ⟨some 202, none, false, .bin .eql (.t 201) (.c (.int .i64 9))⟩,
  ⟨some 203, none, false, .mv (.t 202)⟩,
  ⟨some 204, some (203, true), false, .call false (.c (.fn i_law11_wakes [] [])) []⟩,
  ⟨some 205, none, false, .pick (.t 203) (.t 204) (.c (.bool false))⟩,
  ⟨some 8, none, false, .mv (.t 205)⟩]

def f_law11_LeaseSafe_r25 : List Abs.Op := [
  ⟨some 206, none, false, .mv (.t 11)⟩,
  ⟨some 207, none, false, .bin .neq (.t 206) (.c (.int .i64 0))⟩,
  ⟨some 208, none, false, .mv (.t 207)⟩,
  ⟨some 209, some (208, false), false, .mv (.t 20)⟩,
  ⟨some 210, some (208, false), false, .bin .lss (.t 209) (.c (.int .i64 0))⟩,
  ⟨some 211, none, false, .pick (.t 208) (.c (.bool true)) (.t 210)⟩,
  ⟨some 212, none, false, .mv (.t 211)⟩,
  ⟨some 213, some (212, false), false, .mv (.t 1)⟩,
  ⟨some 214, some (212, false), false, .mv (.t 19)⟩,
  ⟨some 215, some (212, false), false, .idxS 1 (.t 213) (.t 214)⟩,
  ⟨some 216, some (212, false), false, .ld false 1 (.t 215)⟩,
  ⟨some 217, some (212, false), false, .mv (.t 20)⟩,
  ⟨some 218, some (212, false), false, .bin .add (.t 216) (.t 217)⟩,
  ⟨some 219, some (212, false), false, .bin .gtr (.t 218) (.c (.int .i64 1000000))⟩,
  ⟨some 220, none, false, .pick (.t 212) (.c (.bool true)) (.t 219)⟩]

def f_law11_LeaseSafe_r26 : List Abs.Op := [
  ⟨some 8, none, false, .mv (.c (.bool false))⟩]

def f_law11_LeaseSafe_r27 : List Abs.Op := [
  ⟨some 221, none, false, .mv (.t 1)⟩,
  ⟨some 222, none, false, .call true (.c (.fn i_law11_list [] [])) [(.t 221)]⟩,
  ⟨some 21, none, false, .mv (.t 222)⟩]

def f_law11_LeaseSafe_r28 : List Abs.Op := [
  ⟨some 223, none, false, .mv (.t 21)⟩,
  ⟨some 224, none, false, .mv (.t 19)⟩,
  ⟨some 225, none, false, .idxS 1 (.t 223) (.t 224)⟩,
  ⟨some 226, none, false, .ld false 1 (.t 225)⟩,
  ⟨some 227, none, false, .mv (.t 20)⟩,
  ⟨some 228, none, false, .bin .add (.t 226) (.t 227)⟩,
  ⟨some 229, none, false, .idxS 1 (.t 223) (.t 224)⟩,
  ⟨none, none, false, .st [] 1 (.t 229) (.t 228)⟩]

def f_law11_LeaseSafe_r29 : List Abs.Op := [
  ⟨some 231, none, false, .mv (.t 9)⟩,
  ⟨some 232, none, false, .mv (.t 21)⟩,
  ⟨some 233, none, false, .call false (.c (.fn i_law11_list [] [])) [(.t 232)]⟩,
  ⟨some 234, none, false, .call false (.c (.fn i_lease_Harmed [] [])) [(.t 231), (.t 233)]⟩,
  ⟨some 230, none, false, .mv (.t 234)⟩,
  ⟨some 235, none, false, .ext (.t 230) 0⟩,
  ⟨some 236, none, false, .ext (.t 230) 1⟩,
  ⟨some 237, none, false, .ext (.t 230) 2⟩,
  ⟨some 22, none, false, .mv (.t 235)⟩,
  ⟨some 23, none, false, .mv (.t 236)⟩,
  ⟨some 11, none, false, .mv (.t 237)⟩]

def f_law11_LeaseSafe_r30 : List Abs.Op := [
  ⟨some 238, none, false, .mv (.t 11)⟩,
  ⟨some 239, none, false, .bin .neq (.t 238) (.c (.int .i64 0))⟩,
  ⟨some 240, none, false, .mv (.t 239)⟩,
  ⟨some 241, some (240, false), false, .mv (.t 22)⟩,
  ⟨some 242, some (240, false), false, .lenS (.t 241)⟩,
  ⟨some 243, some (240, false), false, .bin .neq (.t 242) (.c (.int .i64 0))⟩,
  ⟨some 244, none, false, .pick (.t 240) (.c (.bool true)) (.t 243)⟩]

def f_law11_LeaseSafe_r31 : List Abs.Op := [
  ⟨some 8, none, false, .mv (.c (.bool false))⟩]

def f_law11_LeaseSafe_r32 : List Abs.Op := [
  ⟨some 245, none, false, .mv (.t 21)⟩,
  ⟨some 246, none, false, .mv (.t 19)⟩,
  ⟨some 247, none, false, .idxS 1 (.t 245) (.t 246)⟩,
  ⟨some 248, none, false, .ld false 1 (.t 247)⟩,
  ⟨some 249, none, false, .bin .eql (.t 248) (.c (.int .i64 1000000))⟩]

def f_law11_LeaseSafe_r33 : List Abs.Op := [
  ⟨some 250, none, false, .call false (.c (.fn i_law11_wakes [] [])) []⟩,
  ⟨some 8, none, false, .mv (.t 250)⟩]

def f_law11_LeaseSafe_r34 : List Abs.Op := [
  ⟨some 251, none, false, .mv (.t 21)⟩,
  ⟨some 252, none, false, .mv (.t 19)⟩,
  ⟨some 253, none, false, .idxS 1 (.t 251) (.t 252)⟩,
  ⟨some 254, none, false, .ld false 1 (.t 253)⟩,
  ⟨some 255, none, false, .bin .add (.t 254) (.c (.int .i64 1))⟩,
  ⟨some 256, none, false, .idxS 1 (.t 251) (.t 252)⟩,
  ⟨none, none, false, .st [] 1 (.t 256) (.t 255)⟩]

def f_law11_LeaseSafe_r35 : List Abs.Op := [
  ⟨some 258, none, false, .mv (.t 9)⟩,
  ⟨some 259, none, false, .mv (.t 21)⟩,
  ⟨some 260, none, false, .call false (.c (.fn i_law11_list [] [])) [(.t 259)]⟩,
  ⟨some 261, none, false, .call false (.c (.fn i_lease_Harmed [] [])) [(.t 258), (.t 260)]⟩,
  ⟨some 257, none, false, .mv (.t 261)⟩,
  ⟨some 262, none, false, .ext (.t 257) 0⟩,
  ⟨some 263, none, false, .ext (.t 257) 1⟩,
  ⟨some 264, none, false, .ext (.t 257) 2⟩,
  ⟨some 22, none, false, .mv (.t 262)⟩,
  ⟨some 11, none, false, .mv (.t 264)⟩]

def f_law11_LeaseSafe_r36 : List Abs.Op := [
  ⟨some 265, none, false, .mv (.t 11)⟩,
  ⟨some 266, none, false, .bin .eql (.t 265) (.c (.int .i64 0))⟩,
  ⟨some 267, none, false, .mv (.t 266)⟩,
  ⟨some 268, some (267, true), false, .mv (.t 22)⟩,
  ⟨some 269, some (267, true), false, .lenS (.t 268)⟩,
  ⟨some 270, some (267, true), false, .bin .gtr (.t 269) (.c (.int .i64 0))⟩,
  ⟨some 271, none, false, .pick (.t 267) (.t 270) (.c (.bool false))⟩,
  ⟨some 272, none, false, .mv (.t 271)⟩,
  ⟨some 273, some (272, true), false, .call false (.c (.fn i_law11_wakes [] [])) []⟩,
  ⟨some 274, none, false, .pick (.t 272) (.t 273) (.c (.bool false))⟩,
  ⟨some 8, none, false, .mv (.t 274)⟩]

def a_law11_LeaseSafe : Ann := ⟨[(34, [8]), (33, [11, 22]), (32, [9, 21]), (31, [8]), (30, [9, 19, 21, 249]), (29, [8]), (28, [9, 19, 21, 244]), (27, [9, 11, 19, 21, 22]), (26, [9, 19, 21]), (25, [9, 19, 20, 21]), (24, [8]), (23, [1, 9, 19, 20, 220]), (22, [8]), (21, [1, 9, 11, 19, 20, 200]), (20, [1, 9, 11, 12, 19, 20]), (19, [1, 9, 12, 19]), (10, [0, 1, 2, 3, 9, 10, 12, 13, 15]), (18, [8]), (17, [0, 1, 2, 3, 9, 10, 12, 13, 15, 184]), (14, [0, 1, 2, 3, 9, 10, 12, 13, 15, 16, 17]), (16, [0, 1, 2, 3, 9, 10, 12, 13, 15, 16, 17]), (15, [0, 1, 2, 3, 9, 10, 12, 13, 15, 16, 17, 18]), (13, [0, 1, 2, 3, 9, 10, 12, 13, 15, 16, 17, 94]), (12, [0, 1, 2, 3, 9, 10, 12, 13, 15, 16, 17]), (11, [0, 1, 2, 3, 9, 10, 12, 13, 15, 16]), (9, [0, 1, 2, 3, 9, 10, 12, 13, 15, 82]), (8, [0, 1, 2, 3, 9, 10, 12, 13, 15]), (7, [8]), (6, [0, 1, 2, 3, 9, 10, 12, 13, 78]), (5, [0, 1, 2, 3, 9, 10, 11, 12, 13, 14]), (4, [0, 1, 2, 3, 9, 10, 11]), (3, [0, 1, 2, 3, 9]), (2, [8]), (1, [0, 1, 2, 3, 47]), (0, [0, 1, 2, 3])], [(2, [0, 1, 2, 3, 9, 10, 12, 13, 15, 16, 17]), (0, [0, 1, 2, 3, 9, 10, 12, 13, 15])], [], [18], [18], [], [25001], [(33, [21]), (31, [21])], [], []⟩
def f_law11_LeaseSafe : Abs.Fn := ⟨4, [.t 8],
  (.seq (.reg [0, 1, 2, 3] f_law11_LeaseSafe_r0) (.seq (.seq (.reg [0, 1, 2, 3, 47] f_law11_LeaseSafe_r1) (.ite (.t 47) (.seq (.reg [8] f_law11_LeaseSafe_r2) .ret) .nop)) (.seq (.reg [0, 1, 2, 3, 9] f_law11_LeaseSafe_r3) (.seq (.reg [0, 1, 2, 3, 9, 10, 11] f_law11_LeaseSafe_r4) (.seq (.reg [0, 1, 2, 3, 9, 10, 11, 12, 13, 14] f_law11_LeaseSafe_r5) (.seq (.seq (.reg [0, 1, 2, 3, 9, 10, 12, 13, 78] f_law11_LeaseSafe_r6) (.ite (.t 78) (.seq (.reg [8] f_law11_LeaseSafe_r7) .ret) .nop)) (.seq (.seq (.reg [0, 1, 2, 3, 9, 10, 12, 13, 15] f_law11_LeaseSafe_r8) (.blk 0 (.loop [0, 1, 2, 3, 9, 10, 12, 13, 15] false f_law11_LeaseSafe_l20))) (.seq (.reg [1, 9, 12, 19] f_law11_LeaseSafe_r21) (.seq (.reg [1, 9, 11, 12, 19, 20] f_law11_LeaseSafe_r22) (.seq (.seq (.reg [1, 9, 11, 19, 20, 200] f_law11_LeaseSafe_r23) (.ite (.t 200) (.seq (.reg [8] f_law11_LeaseSafe_r24) .ret) .nop)) (.seq (.seq (.reg [1, 9, 19, 20, 220] f_law11_LeaseSafe_r25) (.ite (.t 220) (.seq (.reg [8] f_law11_LeaseSafe_r26) .ret) .nop)) (.seq (.reg [9, 19, 20, 21] f_law11_LeaseSafe_r27) (.seq (.reg [9, 19, 21] f_law11_LeaseSafe_r28) (.seq (.reg [9, 11, 19, 21, 22] f_law11_LeaseSafe_r29) (.seq (.seq (.reg [9, 19, 21, 244] f_law11_LeaseSafe_r30) (.ite (.t 244) (.seq (.reg [8] f_law11_LeaseSafe_r31) .ret) .nop)) (.seq (.seq (.reg [9, 19, 21, 249] f_law11_LeaseSafe_r32) (.ite (.t 249) (.seq (.seq (.frz [21]) (.reg [8] f_law11_LeaseSafe_r33)) .ret) .nop)) (.seq (.reg [9, 21] f_law11_LeaseSafe_r34) (.seq (.seq (.frz [21]) (.reg [11, 22] f_law11_LeaseSafe_r35)) (.seq (.reg [8] f_law11_LeaseSafe_r36) .ret)))))))))))))))))))⟩

theorem e_law11_LeaseSafe_r0 : type_of% f_law11_LeaseSafe_r0.eq_1 := by_rfl f_law11_LeaseSafe_r0.eq_1
theorem e_law11_LeaseSafe_r1 : type_of% f_law11_LeaseSafe_r1.eq_1 := by_rfl f_law11_LeaseSafe_r1.eq_1
theorem e_law11_LeaseSafe_r2 : type_of% f_law11_LeaseSafe_r2.eq_1 := by_rfl f_law11_LeaseSafe_r2.eq_1
theorem e_law11_LeaseSafe_r3 : type_of% f_law11_LeaseSafe_r3.eq_1 := by_rfl f_law11_LeaseSafe_r3.eq_1
theorem e_law11_LeaseSafe_r4 : type_of% f_law11_LeaseSafe_r4.eq_1 := by_rfl f_law11_LeaseSafe_r4.eq_1
theorem e_law11_LeaseSafe_r5 : type_of% f_law11_LeaseSafe_r5.eq_1 := by_rfl f_law11_LeaseSafe_r5.eq_1
theorem e_law11_LeaseSafe_r6 : type_of% f_law11_LeaseSafe_r6.eq_1 := by_rfl f_law11_LeaseSafe_r6.eq_1
theorem e_law11_LeaseSafe_r7 : type_of% f_law11_LeaseSafe_r7.eq_1 := by_rfl f_law11_LeaseSafe_r7.eq_1
theorem e_law11_LeaseSafe_r8 : type_of% f_law11_LeaseSafe_r8.eq_1 := by_rfl f_law11_LeaseSafe_r8.eq_1
theorem e_law11_LeaseSafe_r9 : type_of% f_law11_LeaseSafe_r9.eq_1 := by_rfl f_law11_LeaseSafe_r9.eq_1
theorem e_law11_LeaseSafe_r10 : type_of% f_law11_LeaseSafe_r10.eq_1 := by_rfl f_law11_LeaseSafe_r10.eq_1
theorem e_law11_LeaseSafe_r11 : type_of% f_law11_LeaseSafe_r11.eq_1 := by_rfl f_law11_LeaseSafe_r11.eq_1
theorem e_law11_LeaseSafe_r12 : type_of% f_law11_LeaseSafe_r12.eq_1 := by_rfl f_law11_LeaseSafe_r12.eq_1
theorem e_law11_LeaseSafe_r13 : type_of% f_law11_LeaseSafe_r13.eq_1 := by_rfl f_law11_LeaseSafe_r13.eq_1
theorem e_law11_LeaseSafe_r14 : type_of% f_law11_LeaseSafe_r14.eq_1 := by_rfl f_law11_LeaseSafe_r14.eq_1
theorem e_law11_LeaseSafe_r15 : type_of% f_law11_LeaseSafe_r15.eq_1 := by_rfl f_law11_LeaseSafe_r15.eq_1
theorem e_law11_LeaseSafe_l16 : type_of% f_law11_LeaseSafe_l16.eq_1 := by_rfl f_law11_LeaseSafe_l16.eq_1
theorem e_law11_LeaseSafe_r17 : type_of% f_law11_LeaseSafe_r17.eq_1 := by_rfl f_law11_LeaseSafe_r17.eq_1
theorem e_law11_LeaseSafe_r18 : type_of% f_law11_LeaseSafe_r18.eq_1 := by_rfl f_law11_LeaseSafe_r18.eq_1
theorem e_law11_LeaseSafe_r19 : type_of% f_law11_LeaseSafe_r19.eq_1 := by_rfl f_law11_LeaseSafe_r19.eq_1
theorem e_law11_LeaseSafe_l20 : type_of% f_law11_LeaseSafe_l20.eq_1 := by_rfl f_law11_LeaseSafe_l20.eq_1
theorem e_law11_LeaseSafe_r21 : type_of% f_law11_LeaseSafe_r21.eq_1 := by_rfl f_law11_LeaseSafe_r21.eq_1
theorem e_law11_LeaseSafe_r22 : type_of% f_law11_LeaseSafe_r22.eq_1 := by_rfl f_law11_LeaseSafe_r22.eq_1
theorem e_law11_LeaseSafe_r23 : type_of% f_law11_LeaseSafe_r23.eq_1 := by_rfl f_law11_LeaseSafe_r23.eq_1
theorem e_law11_LeaseSafe_r24 : type_of% f_law11_LeaseSafe_r24.eq_1 := by_rfl f_law11_LeaseSafe_r24.eq_1
theorem e_law11_LeaseSafe_r25 : type_of% f_law11_LeaseSafe_r25.eq_1 := by_rfl f_law11_LeaseSafe_r25.eq_1
theorem e_law11_LeaseSafe_r26 : type_of% f_law11_LeaseSafe_r26.eq_1 := by_rfl f_law11_LeaseSafe_r26.eq_1
theorem e_law11_LeaseSafe_r27 : type_of% f_law11_LeaseSafe_r27.eq_1 := by_rfl f_law11_LeaseSafe_r27.eq_1
theorem e_law11_LeaseSafe_r28 : type_of% f_law11_LeaseSafe_r28.eq_1 := by_rfl f_law11_LeaseSafe_r28.eq_1
theorem e_law11_LeaseSafe_r29 : type_of% f_law11_LeaseSafe_r29.eq_1 := by_rfl f_law11_LeaseSafe_r29.eq_1
theorem e_law11_LeaseSafe_r30 : type_of% f_law11_LeaseSafe_r30.eq_1 := by_rfl f_law11_LeaseSafe_r30.eq_1
theorem e_law11_LeaseSafe_r31 : type_of% f_law11_LeaseSafe_r31.eq_1 := by_rfl f_law11_LeaseSafe_r31.eq_1
theorem e_law11_LeaseSafe_r32 : type_of% f_law11_LeaseSafe_r32.eq_1 := by_rfl f_law11_LeaseSafe_r32.eq_1
theorem e_law11_LeaseSafe_r33 : type_of% f_law11_LeaseSafe_r33.eq_1 := by_rfl f_law11_LeaseSafe_r33.eq_1
theorem e_law11_LeaseSafe_r34 : type_of% f_law11_LeaseSafe_r34.eq_1 := by_rfl f_law11_LeaseSafe_r34.eq_1
theorem e_law11_LeaseSafe_r35 : type_of% f_law11_LeaseSafe_r35.eq_1 := by_rfl f_law11_LeaseSafe_r35.eq_1
theorem e_law11_LeaseSafe_r36 : type_of% f_law11_LeaseSafe_r36.eq_1 := by_rfl f_law11_LeaseSafe_r36.eq_1
theorem e_law11_LeaseSafe : type_of% f_law11_LeaseSafe.eq_1 := by_rfl f_law11_LeaseSafe.eq_1
theorem ok_law11_LeaseSafe : fnC Try.prog a_law11_LeaseSafe Try.f8 = some f_law11_LeaseSafe := by kernel_rfl

/-! 10 fumarole/fumarolelaw11.LeaseMore -/
def f_law11_LeaseMore_r0 : List Abs.Op := [
  ⟨some 5, none, false, .boxi (.t 0)⟩,
  ⟨some 10, none, false, .mv (.c (.bool false))⟩]

def f_law11_LeaseMore_r1 : List Abs.Op := [
  ⟨some 19, none, false, .fadr 1 (.t 5)⟩,
  ⟨some 20, none, false, .ld false 1 (.t 19)⟩,
  ⟨some 21, none, false, .lenS (.t 20)⟩,
  ⟨some 22, none, false, .bin .gtr (.t 21) (.c (.int .i64 10))⟩,
  ⟨some 23, none, false, .mv (.t 22)⟩,
  ⟨some 24, some (23, false), false, .ld true 2 (.t 5)⟩,
  ⟨some 25, some (23, false), false, .call false (.c (.fn i_ref11_RightRule [] [])) [(.t 24)]⟩,
  ⟨some 26, some (23, false), false, .un .not (.t 25)⟩,
  ⟨some 27, none, false, .pick (.t 23) (.c (.bool true)) (.t 26)⟩]

def f_law11_LeaseMore_r2 : List Abs.Op := [
  ⟨some 28, none, false, .call false (.c (.fn i_law11_wakes [] [])) []⟩,
  ⟨some 10, none, false, .mv (.t 28)⟩]

def f_law11_LeaseMore_r3 : List Abs.Op := [
  ⟨some 29, none, false, .mv (.t 3)⟩,
  ⟨some 30, none, false, .cvt .i64 (.t 29)⟩,
  ⟨some 31, none, false, .bin .rem (.t 30) (.c (.int .i64 1001))⟩,
  ⟨some 11, none, false, .mv (.t 31)⟩]

def f_law11_LeaseMore_r4 : List Abs.Op := [
  ⟨some 32, none, false, .mv (.t 11)⟩,
  ⟨some 33, none, false, .mv (.t 4)⟩,
  ⟨some 34, none, false, .cvt .i64 (.t 33)⟩,
  ⟨some 35, none, false, .mv (.t 11)⟩,
  ⟨some 36, none, false, .bin .sub (.c (.int .i64 1001)) (.t 35)⟩,
  ⟨some 37, none, false, .bin .rem (.t 34) (.t 36)⟩,
  ⟨some 38, none, false, .bin .add (.t 32) (.t 37)⟩,
  ⟨some 12, none, false, .mv (.t 38)⟩]

def f_law11_LeaseMore_r5 : List Abs.Op := [
  ⟨some 40, none, false, .ld true 2 (.t 5)⟩,
  ⟨some 41, none, false, .call false (.c (.fn i_law11_Rule [] [])) [(.t 40)]⟩,
  ⟨some 42, none, false, .mv (.t 1)⟩,
  ⟨some 43, none, false, .cvt .i64 (.t 42)⟩,
  ⟨some 44, none, false, .mv (.t 11)⟩,
  ⟨some 45, none, false, .call false (.c (.fn i_lease_Royalty [] [])) [(.t 41), (.t 43), (.t 44)]⟩,
  ⟨some 39, none, false, .mv (.t 45)⟩,
  ⟨some 46, none, false, .ext (.t 39) 0⟩,
  ⟨some 47, none, false, .ext (.t 39) 1⟩,
  ⟨some 13, none, false, .mv (.t 46)⟩,
  ⟨some 14, none, false, .mv (.t 47)⟩]

def f_law11_LeaseMore_r6 : List Abs.Op := [
  ⟨some 49, none, false, .ld true 2 (.t 5)⟩,
  ⟨some 50, none, false, .call false (.c (.fn i_law11_Rule [] [])) [(.t 49)]⟩,
  ⟨some 51, none, false, .mv (.t 1)⟩,
  ⟨some 52, none, false, .cvt .i64 (.t 51)⟩,
  ⟨some 53, none, false, .mv (.t 2)⟩,
  ⟨some 54, none, false, .cvt .i64 (.t 53)⟩,
  ⟨some 55, none, false, .bin .add (.t 52) (.t 54)⟩,
  ⟨some 56, none, false, .mv (.t 11)⟩,
  ⟨some 57, none, false, .call false (.c (.fn i_lease_Royalty [] [])) [(.t 50), (.t 55), (.t 56)]⟩,
  ⟨some 48, none, false, .mv (.t 57)⟩,
  ⟨some 58, none, false, .ext (.t 48) 0⟩,
  ⟨some 59, none, false, .ext (.t 48) 1⟩,
  ⟨some 15, none, false, .mv (.t 58)⟩,
  ⟨some 16, none, false, .mv (.t 59)⟩]

def f_law11_LeaseMore_r7 : List Abs.Op := [
  ⟨some 61, none, false, .ld true 2 (.t 5)⟩,
  ⟨some 62, none, false, .call false (.c (.fn i_law11_Rule [] [])) [(.t 61)]⟩,
  ⟨some 63, none, false, .mv (.t 1)⟩,
  ⟨some 64, none, false, .cvt .i64 (.t 63)⟩,
  ⟨some 65, none, false, .mv (.t 12)⟩,
  ⟨some 66, none, false, .call false (.c (.fn i_lease_Royalty [] [])) [(.t 62), (.t 64), (.t 65)]⟩,
  ⟨some 60, none, false, .mv (.t 66)⟩,
  ⟨some 67, none, false, .ext (.t 60) 0⟩,
  ⟨some 68, none, false, .ext (.t 60) 1⟩,
  ⟨some 17, none, false, .mv (.t 67)⟩,
  ⟨some 18, none, false, .mv (.t 68)⟩]

def f_law11_LeaseMore_r8 : List Abs.Op := [
  ⟨some 69, none, false, .mv (.t 14)⟩,
  ⟨some 70, none, false, .bin .eql (.t 69) (.c (.int .i64 0))⟩,
  ⟨some 71, none, false, .mv (.t 70)⟩,
  ⟨some 72, some (71, true), false, .mv (.t 16)⟩,
  ⟨some 73, some (71, true), false, .bin .eql (.t 72) (.c (.int .i64 0))⟩,
  ⟨some 74, none, false, .pick (.t 71) (.t 73) (.c (.bool false))⟩,
  ⟨some 75, none, false, .mv (.t 74)⟩,
  ⟨some 76, some (75, true), false, .mv (.t 18)⟩,
  ⟨some 77, some (75, true), false, .bin .eql (.t 76) (.c (.int .i64 0))⟩,
  ⟨some 78, none, false, .pick (.t 75) (.t 77) (.c (.bool false))⟩,
  ⟨some 79, none, false, .mv (.t 78)⟩,
  ⟨some 80, some (79, true), false, .mv (.t 13)⟩,
  ⟨some 81, some (79, true), false, .fadr 0 (.t 5)⟩,
  ⟨some 82, some (79, true), false, .ld false 1 (.t 81)⟩,
  ⟨some 83, some (79, true), false, .bin .geq (.t 80) (.t 82)⟩,
  ⟨some 84, none, false, .pick (.t 79) (.t 83) (.c (.bool false))⟩,
  ⟨some 85, none, false, .mv (.t 84)⟩,
  ⟨some 86, some (85, true), false, .mv (.t 15)⟩,
  ⟨some 87, some (85, true), false, .mv (.t 13)⟩,
  ⟨some 88, some (85, true), false, .bin .geq (.t 86) (.t 87)⟩,
  ⟨some 89, none, false, .pick (.t 85) (.t 88) (.c (.bool false))⟩,
  ⟨some 90, none, false, .mv (.t 89)⟩,
  ⟨some 91, some (90, true), false, .mv (.t 17)⟩,
  ⟨some 92, some (90, true), false, .mv (.t 13)⟩,
  ⟨some 93, some (90, true), false, .bin .geq (.t 91) (.t 92)⟩,
  ⟨some 94, none, false, .pick (.t 90) (.t 93) (.c (.bool false))⟩,
  ⟨some 95, none, false, .mv (.t 94)⟩,
  ⟨some 96, some (95, true), false, .call false (.c (.fn i_law11_wakes [] [])) []⟩,
  ⟨some 97, none, false, .pick (.t 95) (.t 96) (.c (.bool false))⟩,
  ⟨some 10, none, false, .mv (.t 97)⟩]

def a_law11_LeaseMore : Ann := ⟨[(8, [10]), (7, [5, 13, 14, 15, 16, 17, 18]), (6, [1, 5, 12, 13, 14, 15, 16]), (5, [1, 2, 5, 11, 12, 13, 14]), (4, [1, 2, 5, 11, 12]), (3, [1, 2, 4, 5, 11]), (2, [10]), (1, [1, 2, 3, 4, 5, 27]), (0, [1, 2, 3, 4, 5])], [], [], [], [], [], [], [], [], []⟩
def f_law11_LeaseMore : Abs.Fn := ⟨5, [.t 10],
  (.seq (.reg [1, 2, 3, 4, 5] f_law11_LeaseMore_r0) (.seq (.seq (.reg [1, 2, 3, 4, 5, 27] f_law11_LeaseMore_r1) (.ite (.t 27) (.seq (.reg [10] f_law11_LeaseMore_r2) .ret) .nop)) (.seq (.reg [1, 2, 4, 5, 11] f_law11_LeaseMore_r3) (.seq (.reg [1, 2, 5, 11, 12] f_law11_LeaseMore_r4) (.seq (.reg [1, 2, 5, 11, 12, 13, 14] f_law11_LeaseMore_r5) (.seq (.reg [1, 5, 12, 13, 14, 15, 16] f_law11_LeaseMore_r6) (.seq (.reg [5, 13, 14, 15, 16, 17, 18] f_law11_LeaseMore_r7) (.seq (.reg [10] f_law11_LeaseMore_r8) .ret))))))))⟩

theorem e_law11_LeaseMore_r0 : type_of% f_law11_LeaseMore_r0.eq_1 := by_rfl f_law11_LeaseMore_r0.eq_1
theorem e_law11_LeaseMore_r1 : type_of% f_law11_LeaseMore_r1.eq_1 := by_rfl f_law11_LeaseMore_r1.eq_1
theorem e_law11_LeaseMore_r2 : type_of% f_law11_LeaseMore_r2.eq_1 := by_rfl f_law11_LeaseMore_r2.eq_1
theorem e_law11_LeaseMore_r3 : type_of% f_law11_LeaseMore_r3.eq_1 := by_rfl f_law11_LeaseMore_r3.eq_1
theorem e_law11_LeaseMore_r4 : type_of% f_law11_LeaseMore_r4.eq_1 := by_rfl f_law11_LeaseMore_r4.eq_1
theorem e_law11_LeaseMore_r5 : type_of% f_law11_LeaseMore_r5.eq_1 := by_rfl f_law11_LeaseMore_r5.eq_1
theorem e_law11_LeaseMore_r6 : type_of% f_law11_LeaseMore_r6.eq_1 := by_rfl f_law11_LeaseMore_r6.eq_1
theorem e_law11_LeaseMore_r7 : type_of% f_law11_LeaseMore_r7.eq_1 := by_rfl f_law11_LeaseMore_r7.eq_1
theorem e_law11_LeaseMore_r8 : type_of% f_law11_LeaseMore_r8.eq_1 := by_rfl f_law11_LeaseMore_r8.eq_1
theorem e_law11_LeaseMore : type_of% f_law11_LeaseMore.eq_1 := by_rfl f_law11_LeaseMore.eq_1
theorem ok_law11_LeaseMore : fnC Try.prog a_law11_LeaseMore Try.f10 = some f_law11_LeaseMore := by kernel_rfl

/-! 11 fumarole/fumarolelaw11.LeaseAll -/
def f_law11_LeaseAll_r0 : List Abs.Op := [
  ⟨some 2, none, false, .boxi (.t 0)⟩,
  ⟨some 4, none, false, .mv (.c (.bool false))⟩]

def f_law11_LeaseAll_r1 : List Abs.Op := [
  ⟨some 22, none, false, .ld true 2 (.t 2)⟩,
  ⟨some 23, none, false, .call false (.c (.fn i_law11_few [] [])) [(.t 22)]⟩,
  ⟨some 24, none, false, .un .not (.t 23)⟩,
  ⟨some 25, none, false, .mv (.t 24)⟩,
  ⟨some 26, some (25, false), false, .ld true 2 (.t 2)⟩,
  ⟨some 27, some (25, false), false, .call false (.c (.fn i_ref11_Right [] [])) [(.t 26)]⟩,
  ⟨some 28, some (25, false), false, .un .not (.t 27)⟩,
  ⟨some 29, none, false, .pick (.t 25) (.c (.bool true)) (.t 28)⟩,
  ⟨some 30, none, false, .mv (.t 29)⟩,
  ⟨some 31, some (30, false), false, .mv (.t 1)⟩,
  ⟨some 32, some (30, false), false, .lenS (.t 31)⟩,
  ⟨some 33, some (30, false), false, .bin .gtr (.t 32) (.c (.int .i64 30))⟩,
  ⟨some 34, none, false, .pick (.t 30) (.c (.bool true)) (.t 33)⟩]

def f_law11_LeaseAll_r2 : List Abs.Op := [
  ⟨some 35, none, false, .call false (.c (.fn i_law11_wakes [] [])) []⟩,
  ⟨some 4, none, false, .mv (.t 35)⟩]

def f_law11_LeaseAll_r3 : List Abs.Op := [
  ⟨some 36, none, false, .ld true 2 (.t 2)⟩,
  ⟨some 37, none, false, .call false (.c (.fn i_law11_Concession [] [])) [(.t 36)]⟩,
  ⟨some 5, none, false, .alcv [] [(.int .i64 0), .nils]⟩,
  ⟨none, none, false, .stv 5 [] 2 5 (.t 37)⟩]

def f_law11_LeaseAll_r4 : List Abs.Op := [
  ⟨some 38, none, false, .fadr 1 (.t 2)⟩,
  ⟨some 39, none, false, .ld false 1 (.t 38)⟩,
  ⟨some 40, none, false, .lenS (.t 39)⟩,
  ⟨some 41, none, false, .mks 1 8 [(.int .i64 0)] (.t 40) (.t 40)⟩,
  ⟨some 6, none, false, .mv (.t 41)⟩]

def f_law11_LeaseAll_r5 : List Abs.Op := [
  ⟨some 42, none, false, .fadr 0 (.t 2)⟩,
  ⟨some 43, none, false, .ld false 1 (.t 42)⟩,
  ⟨some 44, none, false, .mks 1 8 [(.int .i64 0)] (.t 43) (.t 43)⟩,
  ⟨some 7, none, false, .mv (.t 44)⟩]

def f_law11_LeaseAll_r6 : List Abs.Op := [
  ⟨some 8, none, false, .mv (.c (.int .i64 0))⟩,
  ⟨some 9, none, false, .mv (.c (.int .i64 0))⟩]

def f_law11_LeaseAll_r7 : List Abs.Op := [
  ⟨some 10, none, false, .mv (.c (.int .i64 0))⟩]

def f_law11_LeaseAll_r8 : List Abs.Op := [
  ⟨some 45, none, false, .mv (.t 10)⟩,
  ⟨some 46, none, false, .mv (.t 1)⟩,
  ⟨some 47, none, false, .lenS (.t 46)⟩,
  ⟨some 48, none, false, .bin .lss (.t 45) (.t 47)⟩]

def f_law11_LeaseAll_r9 : List Abs.Op := [
  ⟨some 51, none, false, .fadr 1 (.t 2)⟩,
  ⟨some 52, none, false, .ld false 1 (.t 51)⟩,
  ⟨some 53, none, false, .lenS (.t 52)⟩,
  ⟨some 54, none, false, .mks 1 8 [(.int .i64 0)] (.t 53) (.t 53)⟩,
  ⟨some 11, none, false, .mv (.t 54)⟩]

def f_law11_LeaseAll_r10 : List Abs.Op := [
  ⟨some 12, none, false, .mv (.c (.int .i64 0))⟩]

def f_law11_LeaseAll_r11 : List Abs.Op := [
  ⟨some 55, none, false, .mv (.t 12)⟩,
  ⟨some 56, none, false, .mv (.t 11)⟩,
  ⟨some 57, none, false, .lenS (.t 56)⟩,
  ⟨some 58, none, false, .bin .lss (.t 55) (.t 57)⟩,
  ⟨some 59, none, false, .mv (.t 58)⟩,
  ⟨some 60, some (59, true), false, .mv (.t 12)⟩,
  ⟨some 61, some (59, true), false, .mv (.t 1)⟩,
  ⟨some 62, some (59, true), false, .mv (.t 10)⟩,
  ⟨some 63, some (59, true), false, .idxS 1 (.t 61) (.t 62)⟩,
  ⟨some 64, some (59, true), false, .ld false 1 (.t 63)⟩,
  ⟨some 65, some (59, true), false, .lenS (.t 64)⟩,
  ⟨some 66, some (59, true), false, .bin .lss (.t 60) (.t 65)⟩,
  ⟨some 67, none, false, .pick (.t 59) (.t 66) (.c (.bool false))⟩]

def f_law11_LeaseAll_r12 : List Abs.Op := [
  ⟨some 70, none, false, .mv (.t 11)⟩,
  ⟨some 71, none, false, .mv (.t 12)⟩,
  ⟨some 72, none, false, .mv (.t 1)⟩,
  ⟨some 73, none, false, .mv (.t 10)⟩,
  ⟨some 74, none, false, .idxS 1 (.t 72) (.t 73)⟩,
  ⟨some 75, none, false, .ld false 1 (.t 74)⟩,
  ⟨some 76, none, false, .mv (.t 12)⟩,
  ⟨some 77, none, false, .idxS 1 (.t 75) (.t 76)⟩,
  ⟨some 78, none, false, .ld false 1 (.t 77)⟩,
  ⟨some 79, none, false, .cvt .i64 (.t 78)⟩,
  ⟨some 80, none, false, .idxS 1 (.t 70) (.t 71)⟩,
  ⟨none, none, false, .st [] 1 (.t 80) (.t 79)⟩]

def f_law11_LeaseAll_r13 : List Abs.Op := [
  ⟨some 81, none, false, .mv (.t 9)⟩,
  ⟨some 82, none, false, .mv (.t 11)⟩,
  ⟨some 83, none, false, .mv (.t 12)⟩,
  ⟨some 84, none, false, .idxS 1 (.t 82) (.t 83)⟩,
  ⟨some 85, none, false, .ld false 1 (.t 84)⟩,
  ⟨some 86, none, false, .bin .add (.t 81) (.t 85)⟩,
  ⟨some 9, none, false, .mv (.t 86)⟩]

def f_law11_LeaseAll_r14 : List Abs.Op := [
  ⟨some 68, none, false, .mv (.t 12)⟩,
  ⟨some 69, none, false, .bin .add (.t 68) (.c (.int .i64 1))⟩,
  ⟨some 12, none, false, .mv (.t 69)⟩]

def f_law11_LeaseAll_l15 : Abs.Cmd :=
  (.seq (.seq (.reg [1, 2, 5, 6, 7, 8, 9, 10, 11, 12, 67] f_law11_LeaseAll_r11) (.ite (.t 67) .nop (.exit 2))) (.seq (.blk 3 (.seq (.reg [1, 2, 5, 6, 7, 8, 9, 10, 11, 12] f_law11_LeaseAll_r12) (.reg [1, 2, 5, 6, 7, 8, 9, 10, 11, 12] f_law11_LeaseAll_r13))) (.reg [1, 2, 5, 6, 7, 8, 9, 10, 11, 12] f_law11_LeaseAll_r14)))

def f_law11_LeaseAll_r16 : List Abs.Op := [
  ⟨some 88, none, true, .ldv 5 true 2 5⟩,
  ⟨some 89, none, true, .mv (.t 6)⟩,
  ⟨some 90, none, true, .call false (.c (.fn i_law11_list [] [])) [(.t 89)]⟩,
  ⟨some 91, none, true, .mv (.t 11)⟩,
  ⟨some 92, none, true, .call false (.c (.fn i_law11_list [] [])) [(.t 91)]⟩,
  ⟨some 93, none, true, .call false (.c (.fn i_lease_Divide [] [])) [(.t 88), (.t 90), (.t 92)]⟩,
  ⟨some 87, none, true, .mv (.t 93)⟩,
  ⟨some 94, none, true, .ext (.t 87) 0⟩,
  ⟨some 95, none, true, .ext (.t 87) 1⟩,
  ⟨some 96, none, true, .ext (.t 87) 2⟩,
  ⟨some 13, none, true, .mv (.t 94)⟩,
  ⟨some 14, none, true, .mv (.t 95)⟩,
  ⟨some 15, none, false, .mv (.t 96)⟩]

def f_law11_LeaseAll_r17 : List Abs.Op := [
  ⟨some 97, none, false, .mv (.t 15)⟩,
  ⟨some 98, none, false, .bin .neq (.t 97) (.c (.int .i64 0))⟩,
  ⟨some 99, none, false, .mv (.t 98)⟩,
  ⟨some 100, some (99, false), false, .mv (.t 13)⟩,
  ⟨some 101, some (99, false), false, .lenS (.t 100)⟩,
  ⟨some 102, some (99, false), false, .fadr 0 (.t 2)⟩,
  ⟨some 103, some (99, false), false, .ld false 1 (.t 102)⟩,
  ⟨some 104, some (99, false), false, .bin .neq (.t 101) (.t 103)⟩,
  ⟨some 105, none, false, .pick (.t 99) (.c (.bool true)) (.t 104)⟩,
  ⟨some 106, none, false, .mv (.t 105)⟩,
  ⟨some 107, some (106, false), false, .mv (.t 14)⟩,
  ⟨some 108, some (106, false), false, .fadr 0 (.t 2)⟩,
  ⟨some 109, some (106, false), false, .ld false 1 (.t 108)⟩,
  ⟨some 110, some (106, false), false, .un .neg (.t 109)⟩,
  ⟨some 111, some (106, false), false, .bin .lss (.t 107) (.t 110)⟩,
  ⟨some 112, none, false, .pick (.t 106) (.c (.bool true)) (.t 111)⟩]

def f_law11_LeaseAll_r18 : List Abs.Op := [
  ⟨some 4, none, false, .mv (.c (.bool false))⟩]

def f_law11_LeaseAll_r19 : List Abs.Op := [
  ⟨some 16, none, false, .mv (.c (.int .i64 0))⟩]

def f_law11_LeaseAll_r20 : List Abs.Op := [
  ⟨some 113, none, false, .mv (.t 16)⟩,
  ⟨some 114, none, false, .fadr 0 (.t 2)⟩,
  ⟨some 115, none, false, .ld false 1 (.t 114)⟩,
  ⟨some 116, none, false, .bin .lss (.t 113) (.t 115)⟩]

def f_law11_LeaseAll_r21 : List Abs.Op := [
  ⟨some 119, none, false, .mv (.t 13)⟩,
  ⟨some 120, none, false, .mv (.t 16)⟩,
  ⟨some 121, none, false, .idxS 1 (.t 119) (.t 120)⟩,
  ⟨some 122, none, false, .ld false 1 (.t 121)⟩,
  ⟨some 123, none, false, .bin .lss (.t 122) (.c (.int .i64 0))⟩]

def f_law11_LeaseAll_r22 : List Abs.Op := [
  ⟨some 4, none, false, .mv (.c (.bool false))⟩]

def f_law11_LeaseAll_r23 : List Abs.Op := [
  ⟨some 124, none, true, .mv (.t 7)⟩,
  ⟨some 125, none, true, .mv (.t 16)⟩,
  ⟨some 126, none, true, .idxS 1 (.t 124) (.t 125)⟩,
  ⟨some 127, none, true, .ld false 1 (.t 126)⟩,
  ⟨some 128, none, true, .mv (.t 13)⟩,
  ⟨some 129, none, true, .mv (.t 16)⟩,
  ⟨some 130, none, true, .idxS 1 (.t 128) (.t 129)⟩,
  ⟨some 131, none, true, .ld false 1 (.t 130)⟩,
  ⟨some 132, none, false, .bin .add (.t 127) (.t 131)⟩,
  ⟨some 133, none, false, .idxS 1 (.t 124) (.t 125)⟩,
  ⟨none, none, false, .st [] 1 (.t 133) (.t 132)⟩]

def f_law11_LeaseAll_r24 : List Abs.Op := [
  ⟨some 117, none, false, .mv (.t 16)⟩,
  ⟨some 118, none, false, .bin .add (.t 117) (.c (.int .i64 1))⟩,
  ⟨some 16, none, false, .mv (.t 118)⟩]

def f_law11_LeaseAll_l25 : Abs.Cmd :=
  (.seq (.seq (.reg [1, 2, 5, 6, 7, 8, 9, 10, 11, 13, 14, 16, 116] f_law11_LeaseAll_r20) (.ite (.t 116) .nop (.exit 4))) (.seq (.blk 5 (.seq (.seq (.reg [1, 2, 5, 6, 7, 8, 9, 10, 11, 13, 14, 16, 123] f_law11_LeaseAll_r21) (.ite (.t 123) (.seq (.reg [4] f_law11_LeaseAll_r22) .ret) .nop)) (.reg [1, 2, 5, 6, 7, 8, 9, 10, 11, 13, 14, 16] f_law11_LeaseAll_r23))) (.reg [1, 2, 5, 6, 7, 8, 9, 10, 11, 13, 14, 16] f_law11_LeaseAll_r24)))

def f_law11_LeaseAll_r26 : List Abs.Op := [
  ⟨some 134, none, false, .mv (.t 8)⟩,
  ⟨some 135, none, false, .mv (.t 14)⟩,
  ⟨some 136, none, false, .bin .add (.t 134) (.t 135)⟩,
  ⟨some 8, none, false, .mv (.t 136)⟩]

def f_law11_LeaseAll_r27 : List Abs.Op := [
  ⟨some 137, none, false, .mv (.t 6)⟩,
  ⟨some 138, none, false, .mv (.t 11)⟩,
  ⟨some 139, none, false, .call false (.c (.fn i_ref11_Both [] [])) [(.t 137), (.t 138)]⟩,
  ⟨some 6, none, false, .mv (.t 139)⟩]

def f_law11_LeaseAll_r28 : List Abs.Op := [
  ⟨some 49, none, false, .mv (.t 10)⟩,
  ⟨some 50, none, false, .bin .add (.t 49) (.c (.int .i64 1))⟩,
  ⟨some 10, none, false, .mv (.t 50)⟩]

def f_law11_LeaseAll_l29 : Abs.Cmd :=
  (.seq (.seq (.reg [1, 2, 5, 6, 7, 8, 9, 10, 48] f_law11_LeaseAll_r8) (.ite (.t 48) .nop (.exit 0))) (.seq (.blk 1 (.seq (.reg [1, 2, 5, 6, 7, 8, 9, 10, 11] f_law11_LeaseAll_r9) (.seq (.seq (.reg [1, 2, 5, 6, 7, 8, 9, 10, 11, 12] f_law11_LeaseAll_r10) (.blk 2 (.loop [1, 2, 5, 6, 7, 8, 9, 10, 11, 12] false f_law11_LeaseAll_l15))) (.seq (.seq (.frz [11]) (.reg [1, 2, 5, 6, 7, 8, 9, 10, 11, 13, 14, 15] f_law11_LeaseAll_r16)) (.seq (.seq (.reg [1, 2, 5, 6, 7, 8, 9, 10, 11, 13, 14, 112] f_law11_LeaseAll_r17) (.ite (.t 112) (.seq (.reg [4] f_law11_LeaseAll_r18) .ret) .nop)) (.seq (.seq (.reg [1, 2, 5, 6, 7, 8, 9, 10, 11, 13, 14, 16] f_law11_LeaseAll_r19) (.blk 4 (.loop [1, 2, 5, 6, 7, 8, 9, 10, 11, 13, 14, 16] false f_law11_LeaseAll_l25))) (.seq (.reg [1, 2, 5, 6, 7, 8, 9, 10, 11] f_law11_LeaseAll_r26) (.reg [1, 2, 5, 6, 7, 8, 9, 10] f_law11_LeaseAll_r27)))))))) (.reg [1, 2, 5, 6, 7, 8, 9, 10] f_law11_LeaseAll_r28)))

def f_law11_LeaseAll_r30 : List Abs.Op := [
  ⟨some 141, none, false, .ldv 5 true 2 5⟩,
  ⟨some 142, none, false, .mv (.t 6)⟩,
  ⟨some 143, none, false, .call false (.c (.fn i_lease_Due [] [])) [(.t 141), (.t 142)]⟩,
  ⟨some 140, none, false, .mv (.t 143)⟩,
  ⟨some 144, none, false, .ext (.t 140) 0⟩,
  ⟨some 145, none, false, .ext (.t 140) 1⟩,
  ⟨some 146, none, false, .ext (.t 140) 2⟩,
  ⟨some 17, none, false, .mv (.t 144)⟩,
  ⟨some 18, none, false, .mv (.t 145)⟩,
  ⟨some 19, none, false, .mv (.t 146)⟩]

def f_law11_LeaseAll_r31 : List Abs.Op := [
  ⟨some 147, none, false, .mv (.t 19)⟩,
  ⟨some 148, none, false, .bin .neq (.t 147) (.c (.int .i64 0))⟩,
  ⟨some 149, none, false, .mv (.t 148)⟩,
  ⟨some 150, some (149, false), false, .mv (.t 17)⟩,
  ⟨some 151, some (149, false), false, .lenS (.t 150)⟩,
  ⟨some 152, some (149, false), false, .fadr 0 (.t 2)⟩,
  ⟨some 153, some (149, false), false, .ld false 1 (.t 152)⟩,
  ⟨some 154, some (149, false), false, .bin .neq (.t 151) (.t 153)⟩,
  ⟨some 155, none, false, .pick (.t 149) (.c (.bool true)) (.t 154)⟩,
  ⟨some 156, none, false, .mv (.t 155)⟩,
  ⟨some 157, some (156, false), false, .mv (.t 18)⟩,
  ⟨some 158, some (156, false), false, .bin .lss (.t 157) (.c (.int .i64 0))⟩,
  ⟨some 159, none, false, .pick (.t 156) (.c (.bool true)) (.t 158)⟩]

def f_law11_LeaseAll_r32 : List Abs.Op := [
  ⟨some 4, none, false, .mv (.c (.bool false))⟩]

def f_law11_LeaseAll_r33 : List Abs.Op := [
  ⟨some 160, none, false, .mv (.t 18)⟩,
  ⟨some 20, none, false, .mv (.t 160)⟩]

def f_law11_LeaseAll_r34 : List Abs.Op := [
  ⟨some 21, none, false, .mv (.c (.int .i64 0))⟩]

def f_law11_LeaseAll_r35 : List Abs.Op := [
  ⟨some 161, none, false, .mv (.t 21)⟩,
  ⟨some 162, none, false, .fadr 0 (.t 2)⟩,
  ⟨some 163, none, false, .ld false 1 (.t 162)⟩,
  ⟨some 164, none, false, .bin .lss (.t 161) (.t 163)⟩]

def f_law11_LeaseAll_r36 : List Abs.Op := [
  ⟨some 167, none, false, .mv (.t 17)⟩,
  ⟨some 168, none, false, .mv (.t 21)⟩,
  ⟨some 169, none, false, .idxS 1 (.t 167) (.t 168)⟩,
  ⟨some 170, none, false, .ld false 1 (.t 169)⟩,
  ⟨some 171, none, false, .bin .lss (.t 170) (.c (.int .i64 0))⟩]

def f_law11_LeaseAll_r37 : List Abs.Op := [
  ⟨some 4, none, false, .mv (.c (.bool false))⟩]

def f_law11_LeaseAll_r38 : List Abs.Op := [
  ⟨some 172, none, false, .mv (.t 20)⟩,
  ⟨some 173, none, false, .mv (.t 17)⟩,
  ⟨some 174, none, false, .mv (.t 21)⟩,
  ⟨some 175, none, false, .idxS 1 (.t 173) (.t 174)⟩,
  ⟨some 176, none, false, .ld false 1 (.t 175)⟩,
  ⟨some 177, none, false, .bin .add (.t 172) (.t 176)⟩,
  ⟨some 20, none, false, .mv (.t 177)⟩]

def f_law11_LeaseAll_r39 : List Abs.Op := [
  ⟨some 165, none, false, .mv (.t 21)⟩,
  ⟨some 166, none, false, .bin .add (.t 165) (.c (.int .i64 1))⟩,
  ⟨some 21, none, false, .mv (.t 166)⟩]

def f_law11_LeaseAll_l40 : Abs.Cmd :=
  (.seq (.seq (.reg [2, 7, 8, 9, 17, 18, 20, 21, 164] f_law11_LeaseAll_r35) (.ite (.t 164) .nop (.exit 6))) (.seq (.blk 7 (.seq (.seq (.reg [2, 7, 8, 9, 17, 18, 20, 21, 171] f_law11_LeaseAll_r36) (.ite (.t 171) (.seq (.reg [4] f_law11_LeaseAll_r37) .ret) .nop)) (.reg [2, 7, 8, 9, 17, 18, 20, 21] f_law11_LeaseAll_r38))) (.reg [2, 7, 8, 9, 17, 18, 20, 21] f_law11_LeaseAll_r39)))

def f_law11_LeaseAll_r41 : List Abs.Op := [
  ⟨some 178, none, false, .mv (.t 17)⟩,
  ⟨some 179, none, false, .mv (.t 7)⟩,
  ⟨some 180, none, false, .call false (.c (.fn i_law11_ints [] [])) [(.t 178), (.t 179)]⟩,
  ⟨some 181, none, false, .mv (.t 180)⟩,
  ⟨some 182, some (181, true), false, .mv (.t 18)⟩,
  ⟨some 183, some (181, true), false, .mv (.t 8)⟩,
  ⟨some 184, some (181, true), false, .bin .eql (.t 182) (.t 183)⟩,
  ⟨some 185, none, false, .pick (.t 181) (.t 184) (.c (.bool false))⟩,
  ⟨some 186, none, false, .mv (.t 185)⟩,
  ⟨some 187, some (186, true), false, .mv (.t 20)⟩,
  ⟨some 188, some (186, true), false, .mv (.t 9)⟩,
  ⟨some 189, some (186, true), false, .bin .eql (.t 187) (.t 188)⟩,
  ⟨some 190, none, false, .pick (.t 186) (.t 189) (.c (.bool false))⟩,
  ⟨some 191, none, false, .mv (.t 190)⟩,
  ⟨some 192, some (191, true), false, .call false (.c (.fn i_law11_wakes [] [])) []⟩,
  ⟨some 193, none, false, .pick (.t 191) (.t 192) (.c (.bool false))⟩,
  ⟨some 4, none, false, .mv (.t 193)⟩]

def a_law11_LeaseAll : Ann := ⟨[(37, [4]), (33, [2, 7, 8, 9, 17, 18, 20, 21]), (36, [2, 7, 8, 9, 17, 18, 20, 21]), (35, [4]), (34, [2, 7, 8, 9, 17, 18, 20, 21, 171]), (32, [2, 7, 8, 9, 17, 18, 20, 21, 164]), (31, [2, 7, 8, 9, 17, 18, 20, 21]), (30, [2, 7, 8, 9, 17, 18, 20]), (29, [4]), (28, [2, 7, 8, 9, 17, 18, 159]), (27, [2, 7, 8, 9, 17, 18, 19]), (9, [1, 2, 5, 6, 7, 8, 9, 10]), (26, [1, 2, 5, 6, 7, 8, 9, 10]), (25, [1, 2, 5, 6, 7, 8, 9, 10, 11]), (21, [1, 2, 5, 6, 7, 8, 9, 10, 11, 13, 14, 16]), (24, [1, 2, 5, 6, 7, 8, 9, 10, 11, 13, 14, 16]), (23, [4]), (22, [1, 2, 5, 6, 7, 8, 9, 10, 11, 13, 14, 16, 123]), (20, [1, 2, 5, 6, 7, 8, 9, 10, 11, 13, 14, 16, 116]), (19, [1, 2, 5, 6, 7, 8, 9, 10, 11, 13, 14, 16]), (18, [4]), (17, [1, 2, 5, 6, 7, 8, 9, 10, 11, 13, 14, 112]), (16, [1, 2, 5, 6, 7, 8, 9, 10, 11, 13, 14, 15]), (13, [1, 2, 5, 6, 7, 8, 9, 10, 11, 12]), (15, [1, 2, 5, 6, 7, 8, 9, 10, 11, 12]), (14, [1, 2, 5, 6, 7, 8, 9, 10, 11, 12]), (12, [1, 2, 5, 6, 7, 8, 9, 10, 11, 12, 67]), (11, [1, 2, 5, 6, 7, 8, 9, 10, 11, 12]), (10, [1, 2, 5, 6, 7, 8, 9, 10, 11]), (8, [1, 2, 5, 6, 7, 8, 9, 10, 48]), (7, [1, 2, 5, 6, 7, 8, 9, 10]), (6, [1, 2, 5, 6, 7, 8, 9]), (5, [1, 2, 5, 6, 7]), (4, [1, 2, 5, 6]), (3, [1, 2, 5]), (2, [4]), (1, [1, 2, 34]), (0, [1, 2])], [(6, [2, 7, 8, 9, 17, 18, 20, 21]), (4, [1, 2, 5, 6, 7, 8, 9, 10, 11, 13, 14, 16]), (2, [1, 2, 5, 6, 7, 8, 9, 10, 11, 12]), (0, [1, 2, 5, 6, 7, 8, 9, 10])], [0], [5], [5], [], [], [(27, [7]), (16, [11]), (5, [6])], [], []⟩
def f_law11_LeaseAll : Abs.Fn := ⟨2, [.t 4],
  (.seq (.reg [1, 2] f_law11_LeaseAll_r0) (.seq (.seq (.reg [1, 2, 34] f_law11_LeaseAll_r1) (.ite (.t 34) (.seq (.reg [4] f_law11_LeaseAll_r2) .ret) .nop)) (.seq (.reg [1, 2, 5] f_law11_LeaseAll_r3) (.seq (.reg [1, 2, 5, 6] f_law11_LeaseAll_r4) (.seq (.seq (.frz [6]) (.reg [1, 2, 5, 6, 7] f_law11_LeaseAll_r5)) (.seq (.reg [1, 2, 5, 6, 7, 8, 9] f_law11_LeaseAll_r6) (.seq (.seq (.reg [1, 2, 5, 6, 7, 8, 9, 10] f_law11_LeaseAll_r7) (.blk 0 (.loop [1, 2, 5, 6, 7, 8, 9, 10] true f_law11_LeaseAll_l29))) (.seq (.seq (.frz [7]) (.reg [2, 7, 8, 9, 17, 18, 19] f_law11_LeaseAll_r30)) (.seq (.seq (.reg [2, 7, 8, 9, 17, 18, 159] f_law11_LeaseAll_r31) (.ite (.t 159) (.seq (.reg [4] f_law11_LeaseAll_r32) .ret) .nop)) (.seq (.reg [2, 7, 8, 9, 17, 18, 20] f_law11_LeaseAll_r33) (.seq (.seq (.reg [2, 7, 8, 9, 17, 18, 20, 21] f_law11_LeaseAll_r34) (.blk 6 (.loop [2, 7, 8, 9, 17, 18, 20, 21] false f_law11_LeaseAll_l40))) (.seq (.reg [4] f_law11_LeaseAll_r41) .ret))))))))))))⟩

theorem e_law11_LeaseAll_r0 : type_of% f_law11_LeaseAll_r0.eq_1 := by_rfl f_law11_LeaseAll_r0.eq_1
theorem e_law11_LeaseAll_r1 : type_of% f_law11_LeaseAll_r1.eq_1 := by_rfl f_law11_LeaseAll_r1.eq_1
theorem e_law11_LeaseAll_r2 : type_of% f_law11_LeaseAll_r2.eq_1 := by_rfl f_law11_LeaseAll_r2.eq_1
theorem e_law11_LeaseAll_r3 : type_of% f_law11_LeaseAll_r3.eq_1 := by_rfl f_law11_LeaseAll_r3.eq_1
theorem e_law11_LeaseAll_r4 : type_of% f_law11_LeaseAll_r4.eq_1 := by_rfl f_law11_LeaseAll_r4.eq_1
theorem e_law11_LeaseAll_r5 : type_of% f_law11_LeaseAll_r5.eq_1 := by_rfl f_law11_LeaseAll_r5.eq_1
theorem e_law11_LeaseAll_r6 : type_of% f_law11_LeaseAll_r6.eq_1 := by_rfl f_law11_LeaseAll_r6.eq_1
theorem e_law11_LeaseAll_r7 : type_of% f_law11_LeaseAll_r7.eq_1 := by_rfl f_law11_LeaseAll_r7.eq_1
theorem e_law11_LeaseAll_r8 : type_of% f_law11_LeaseAll_r8.eq_1 := by_rfl f_law11_LeaseAll_r8.eq_1
theorem e_law11_LeaseAll_r9 : type_of% f_law11_LeaseAll_r9.eq_1 := by_rfl f_law11_LeaseAll_r9.eq_1
theorem e_law11_LeaseAll_r10 : type_of% f_law11_LeaseAll_r10.eq_1 := by_rfl f_law11_LeaseAll_r10.eq_1
theorem e_law11_LeaseAll_r11 : type_of% f_law11_LeaseAll_r11.eq_1 := by_rfl f_law11_LeaseAll_r11.eq_1
theorem e_law11_LeaseAll_r12 : type_of% f_law11_LeaseAll_r12.eq_1 := by_rfl f_law11_LeaseAll_r12.eq_1
theorem e_law11_LeaseAll_r13 : type_of% f_law11_LeaseAll_r13.eq_1 := by_rfl f_law11_LeaseAll_r13.eq_1
theorem e_law11_LeaseAll_r14 : type_of% f_law11_LeaseAll_r14.eq_1 := by_rfl f_law11_LeaseAll_r14.eq_1
theorem e_law11_LeaseAll_l15 : type_of% f_law11_LeaseAll_l15.eq_1 := by_rfl f_law11_LeaseAll_l15.eq_1
theorem e_law11_LeaseAll_r16 : type_of% f_law11_LeaseAll_r16.eq_1 := by_rfl f_law11_LeaseAll_r16.eq_1
theorem e_law11_LeaseAll_r17 : type_of% f_law11_LeaseAll_r17.eq_1 := by_rfl f_law11_LeaseAll_r17.eq_1
theorem e_law11_LeaseAll_r18 : type_of% f_law11_LeaseAll_r18.eq_1 := by_rfl f_law11_LeaseAll_r18.eq_1
theorem e_law11_LeaseAll_r19 : type_of% f_law11_LeaseAll_r19.eq_1 := by_rfl f_law11_LeaseAll_r19.eq_1
theorem e_law11_LeaseAll_r20 : type_of% f_law11_LeaseAll_r20.eq_1 := by_rfl f_law11_LeaseAll_r20.eq_1
theorem e_law11_LeaseAll_r21 : type_of% f_law11_LeaseAll_r21.eq_1 := by_rfl f_law11_LeaseAll_r21.eq_1
theorem e_law11_LeaseAll_r22 : type_of% f_law11_LeaseAll_r22.eq_1 := by_rfl f_law11_LeaseAll_r22.eq_1
theorem e_law11_LeaseAll_r23 : type_of% f_law11_LeaseAll_r23.eq_1 := by_rfl f_law11_LeaseAll_r23.eq_1
theorem e_law11_LeaseAll_r24 : type_of% f_law11_LeaseAll_r24.eq_1 := by_rfl f_law11_LeaseAll_r24.eq_1
theorem e_law11_LeaseAll_l25 : type_of% f_law11_LeaseAll_l25.eq_1 := by_rfl f_law11_LeaseAll_l25.eq_1
theorem e_law11_LeaseAll_r26 : type_of% f_law11_LeaseAll_r26.eq_1 := by_rfl f_law11_LeaseAll_r26.eq_1
theorem e_law11_LeaseAll_r27 : type_of% f_law11_LeaseAll_r27.eq_1 := by_rfl f_law11_LeaseAll_r27.eq_1
theorem e_law11_LeaseAll_r28 : type_of% f_law11_LeaseAll_r28.eq_1 := by_rfl f_law11_LeaseAll_r28.eq_1
theorem e_law11_LeaseAll_l29 : type_of% f_law11_LeaseAll_l29.eq_1 := by_rfl f_law11_LeaseAll_l29.eq_1
theorem e_law11_LeaseAll_r30 : type_of% f_law11_LeaseAll_r30.eq_1 := by_rfl f_law11_LeaseAll_r30.eq_1
theorem e_law11_LeaseAll_r31 : type_of% f_law11_LeaseAll_r31.eq_1 := by_rfl f_law11_LeaseAll_r31.eq_1
theorem e_law11_LeaseAll_r32 : type_of% f_law11_LeaseAll_r32.eq_1 := by_rfl f_law11_LeaseAll_r32.eq_1
theorem e_law11_LeaseAll_r33 : type_of% f_law11_LeaseAll_r33.eq_1 := by_rfl f_law11_LeaseAll_r33.eq_1
theorem e_law11_LeaseAll_r34 : type_of% f_law11_LeaseAll_r34.eq_1 := by_rfl f_law11_LeaseAll_r34.eq_1
theorem e_law11_LeaseAll_r35 : type_of% f_law11_LeaseAll_r35.eq_1 := by_rfl f_law11_LeaseAll_r35.eq_1
theorem e_law11_LeaseAll_r36 : type_of% f_law11_LeaseAll_r36.eq_1 := by_rfl f_law11_LeaseAll_r36.eq_1
theorem e_law11_LeaseAll_r37 : type_of% f_law11_LeaseAll_r37.eq_1 := by_rfl f_law11_LeaseAll_r37.eq_1
theorem e_law11_LeaseAll_r38 : type_of% f_law11_LeaseAll_r38.eq_1 := by_rfl f_law11_LeaseAll_r38.eq_1
theorem e_law11_LeaseAll_r39 : type_of% f_law11_LeaseAll_r39.eq_1 := by_rfl f_law11_LeaseAll_r39.eq_1
theorem e_law11_LeaseAll_l40 : type_of% f_law11_LeaseAll_l40.eq_1 := by_rfl f_law11_LeaseAll_l40.eq_1
theorem e_law11_LeaseAll_r41 : type_of% f_law11_LeaseAll_r41.eq_1 := by_rfl f_law11_LeaseAll_r41.eq_1
theorem e_law11_LeaseAll : type_of% f_law11_LeaseAll.eq_1 := by_rfl f_law11_LeaseAll.eq_1
theorem ok_law11_LeaseAll : fnC Try.prog a_law11_LeaseAll Try.f11 = some f_law11_LeaseAll := by kernel_rfl

/-! 12 fumarole/fumarolelaw11.wakes -/
def f_law11_wakes_r0 : List Abs.Op := [
  ⟨some 0, none, false, .mv (.c (.bool false))⟩]

def f_law11_wakes_r1 : List Abs.Op := [
  ⟨some 13, none, false, .call false (.c (.fn i_law11_tracts [] [])) []⟩,
  ⟨some 14, none, false, .bsi 2 1 [(.int .i64 0), (.int .i64 0)] [(0, 1, (.c (.int .i64 10))), (1, 1, (.c (.int .i64 7)))]⟩,
  ⟨some 15, none, false, .call false (.c (.fn i_lease_Due [] [])) [(.t 13), (.t 14)]⟩,
  ⟨some 12, none, false, .mv (.t 15)⟩,
  ⟨some 16, none, false, .ext (.t 12) 0⟩,
  ⟨some 17, none, false, .ext (.t 12) 1⟩,
  ⟨some 18, none, false, .ext (.t 12) 2⟩,
  ⟨some 1, none, false, .mv (.t 16)⟩,
  ⟨some 2, none, false, .mv (.t 17)⟩,
  ⟨some 3, none, false, .mv (.t 18)⟩]

def f_law11_wakes_r2 : List Abs.Op := [
  ⟨some 20, none, false, .bsi 3 1 [(.int .i64 0), (.int .i64 0), (.int .i64 0)] [(0, 1, (.c (.int .i64 1))), (1, 1, (.c (.int .i64 1))), (2, 1, (.c (.int .i64 1)))]⟩,
  ⟨some 21, none, false, .call false (.c (.fn i_lease_Split [] [])) [(.c (.int .i64 10)), (.t 20)]⟩,
  ⟨some 19, none, false, .mv (.t 21)⟩,
  ⟨some 22, none, false, .ext (.t 19) 0⟩,
  ⟨some 23, none, false, .ext (.t 19) 1⟩,
  ⟨some 4, none, false, .mv (.t 22)⟩,
  ⟨some 5, none, false, .mv (.t 23)⟩]

def f_law11_wakes_r3 : List Abs.Op := [
  ⟨some 25, none, false, .call false (.c (.fn i_law11_pool [] [])) []⟩,
  ⟨some 26, none, false, .bsi 2 1 [(.int .i64 0), (.int .i64 0)] [(0, 1, (.c (.int .i64 4))), (1, 1, (.c (.int .i64 10)))]⟩,
  ⟨some 27, none, false, .call false (.c (.fn i_lease_Room [] [])) [(.t 25), (.t 26), (.c (.int .i64 1))]⟩,
  ⟨some 24, none, false, .mv (.t 27)⟩,
  ⟨some 28, none, false, .ext (.t 24) 0⟩,
  ⟨some 29, none, false, .ext (.t 24) 1⟩,
  ⟨some 6, none, false, .mv (.t 28)⟩,
  ⟨some 7, none, false, .mv (.t 29)⟩]

def f_law11_wakes_r4 : List Abs.Op := [
  ⟨some 31, none, false, .call false (.c (.fn i_law11_drilled [] [])) []⟩,
  ⟨some 32, none, false, .call false (.c (.fn i_lease_Drill [] [])) [(.t 31)]⟩,
  ⟨some 30, none, false, .mv (.t 32)⟩,
  ⟨some 33, none, false, .ext (.t 30) 0⟩,
  ⟨some 34, none, false, .ext (.t 30) 1⟩,
  ⟨some 35, none, false, .ext (.t 30) 2⟩,
  ⟨some 36, none, false, .ext (.t 30) 3⟩,
  ⟨some 8, none, false, .mv (.t 33)⟩,
  ⟨some 9, none, false, .mv (.t 34)⟩,
  ⟨some 10, none, false, .mv (.t 35)⟩,
  ⟨some 11, none, false, .mv (.t 36)⟩]

def f_law11_wakes_r5 : List Abs.Op := [
  ⟨some 37, none, false, .mv (.t 3)⟩,
  ⟨some 38, none, false, .bin .eql (.t 37) (.c (.int .i64 0))⟩,
  ⟨some 39, none, false, .mv (.t 38)⟩,
  ⟨some 40, some (39, true), false, .mv (.t 5)⟩,
  ⟨some 41, some (39, true), false, .bin .eql (.t 40) (.c (.int .i64 0))⟩,
  ⟨some 42, none, false, .pick (.t 39) (.t 41) (.c (.bool false))⟩,
  ⟨some 43, none, false, .mv (.t 42)⟩,
  ⟨some 44, some (43, true), false, .mv (.t 7)⟩,
  ⟨some 45, some (43, true), false, .bin .eql (.t 44) (.c (.int .i64 0))⟩,
  ⟨some 46, none, false, .pick (.t 43) (.t 45) (.c (.bool false))⟩,
  ⟨some 47, none, false, .mv (.t 46)⟩,
  ⟨some 48, some (47, true), false, .mv (.t 11)⟩,
  ⟨some 49, some (47, true), false, .bin .eql (.t 48) (.c (.int .i64 0))⟩,
  ⟨some 50, none, false, .pick (.t 47) (.t 49) (.c (.bool false))⟩,
  ⟨some 51, none, false, .mv (.t 50)⟩,
  ⟨some 52, some (51, true), false, .mv (.t 1)⟩,
  ⟨some 53, some (51, true), false, .bsi 3 1 [(.int .i64 0), (.int .i64 0), (.int .i64 0)] [(0, 1, (.c (.int .i64 6))), (1, 1, (.c (.int .i64 6))), (2, 1, (.c (.int .i64 1)))]⟩,
  ⟨some 54, some (51, true), false, .call false (.c (.fn i_law11_ints [] [])) [(.t 52), (.t 53)]⟩,
  ⟨some 55, none, false, .pick (.t 51) (.t 54) (.c (.bool false))⟩,
  ⟨some 56, none, false, .mv (.t 55)⟩,
  ⟨some 57, some (56, true), false, .mv (.t 2)⟩,
  ⟨some 58, some (56, true), false, .bin .eql (.t 57) (.c (.int .i64 4))⟩,
  ⟨some 59, none, false, .pick (.t 56) (.t 58) (.c (.bool false))⟩,
  ⟨some 60, none, false, .mv (.t 59)⟩,
  ⟨some 61, some (60, true), false, .mv (.t 4)⟩,
  ⟨some 62, some (60, true), false, .bsi 3 1 [(.int .i64 0), (.int .i64 0), (.int .i64 0)] [(0, 1, (.c (.int .i64 4))), (1, 1, (.c (.int .i64 3))), (2, 1, (.c (.int .i64 3)))]⟩,
  ⟨some 63, some (60, true), false, .call false (.c (.fn i_law11_ints [] [])) [(.t 61), (.t 62)]⟩,
  ⟨some 64, none, false, .pick (.t 60) (.t 63) (.c (.bool false))⟩,
  ⟨some 65, none, false, .mv (.t 64)⟩,
  ⟨some 66, some (65, true), false, .mv (.t 6)⟩,
  ⟨some 67, some (65, true), false, .bin .eql (.t 66) (.c (.int .i64 14))⟩,
  ⟨some 68, none, false, .pick (.t 65) (.t 67) (.c (.bool false))⟩,
  ⟨some 69, none, false, .mv (.t 68)⟩,
  ⟨some 70, some (69, true), false, .mv (.t 8)⟩,
  ⟨some 71, some (69, true), false, .bsi 3 1 [(.int .i64 0), (.int .i64 0), (.int .i64 0)] [(0, 1, (.c (.int .i64 1))), (1, 1, (.c (.int .i64 1))), (2, 1, (.c (.int .i64 0)))]⟩,
  ⟨some 72, some (69, true), false, .call false (.c (.fn i_law11_ints [] [])) [(.t 70), (.t 71)]⟩,
  ⟨some 73, none, false, .pick (.t 69) (.t 72) (.c (.bool false))⟩,
  ⟨some 74, none, false, .mv (.t 73)⟩,
  ⟨some 75, some (74, true), false, .mv (.t 9)⟩,
  ⟨some 76, some (74, true), false, .bin .eql (.t 75) (.c (.int .i64 9))⟩,
  ⟨some 77, none, false, .pick (.t 74) (.t 76) (.c (.bool false))⟩,
  ⟨some 0, none, false, .mv (.t 77)⟩]

def a_law11_wakes : Ann := ⟨[(5, [0]), (4, [1, 2, 3, 4, 5, 6, 7, 8, 9, 11]), (3, [1, 2, 3, 4, 5, 6, 7]), (2, [1, 2, 3, 4, 5]), (1, [1, 2, 3]), (0, [])], [], [], [], [], [], [], [], [], []⟩
def f_law11_wakes : Abs.Fn := ⟨0, [.t 0],
  (.seq (.reg [] f_law11_wakes_r0) (.seq (.reg [1, 2, 3] f_law11_wakes_r1) (.seq (.reg [1, 2, 3, 4, 5] f_law11_wakes_r2) (.seq (.reg [1, 2, 3, 4, 5, 6, 7] f_law11_wakes_r3) (.seq (.reg [1, 2, 3, 4, 5, 6, 7, 8, 9, 11] f_law11_wakes_r4) (.seq (.reg [0] f_law11_wakes_r5) .ret))))))⟩

theorem e_law11_wakes_r0 : type_of% f_law11_wakes_r0.eq_1 := by_rfl f_law11_wakes_r0.eq_1
theorem e_law11_wakes_r1 : type_of% f_law11_wakes_r1.eq_1 := by_rfl f_law11_wakes_r1.eq_1
theorem e_law11_wakes_r2 : type_of% f_law11_wakes_r2.eq_1 := by_rfl f_law11_wakes_r2.eq_1
theorem e_law11_wakes_r3 : type_of% f_law11_wakes_r3.eq_1 := by_rfl f_law11_wakes_r3.eq_1
theorem e_law11_wakes_r4 : type_of% f_law11_wakes_r4.eq_1 := by_rfl f_law11_wakes_r4.eq_1
theorem e_law11_wakes_r5 : type_of% f_law11_wakes_r5.eq_1 := by_rfl f_law11_wakes_r5.eq_1
theorem e_law11_wakes : type_of% f_law11_wakes.eq_1 := by_rfl f_law11_wakes.eq_1
theorem ok_law11_wakes : fnC Try.prog a_law11_wakes Try.f12 = some f_law11_wakes := by kernel_rfl

end Go.Proofs.Ytcccafphhmcifaa
