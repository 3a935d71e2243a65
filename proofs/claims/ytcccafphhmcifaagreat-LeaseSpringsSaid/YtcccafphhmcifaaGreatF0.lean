/- The code of functions of the program, in the small instruction set; each is what the translation makes of it. -/
import Derived.Test.YtcccafphhmcifaaGreatIds
set_option linter.unusedVariables false
set_option maxRecDepth 100000
namespace Go.Proofs.YtcccafphhmcifaaGreat
open Go Go.Abs
/-! 3 fumarole/fumarolelaw11.LeaseDrills -/
def f_law11_LeaseDrills_r0 : List Abs.Op := [
  ⟨some 1, none, false, .boxi (.t 0)⟩,
  ⟨some 2, none, false, .mv (.c (.bool false))⟩]

def f_law11_LeaseDrills_r1 : List Abs.Op := [
  ⟨some 8, none, false, .fadr 4 (.t 1)⟩,
  ⟨some 9, none, false, .ld false 1 (.t 8)⟩,
  ⟨some 10, none, false, .lenS (.t 9)⟩,
  ⟨some 11, none, false, .bin .gtr (.t 10) (.c (.int .i64 12))⟩,
  ⟨some 12, none, false, .mv (.t 11)⟩,
  ⟨some 13, some (12, false), false, .ld true 5 (.t 1)⟩,
  ⟨some 14, some (12, false), false, .call false (.c (.fn i_ref11_RightProgramme [] [])) [(.t 13)]⟩,
  ⟨some 15, some (12, false), false, .mv (.t 14)⟩,
  ⟨some 16, some (15, true), false, .fadr 4 (.t 1)⟩,
  ⟨some 17, some (15, true), false, .ld false 1 (.t 16)⟩,
  ⟨some 18, some (15, true), false, .lenS (.t 17)⟩,
  ⟨some 19, some (15, true), false, .bin .gtr (.t 18) (.c (.int .i64 6))⟩,
  ⟨some 20, some (12, false), false, .pick (.t 15) (.t 19) (.c (.bool false))⟩,
  ⟨some 21, none, false, .pick (.t 12) (.c (.bool true)) (.t 20)⟩]

def f_law11_LeaseDrills_r2 : List Abs.Op := [
  ⟨some 22, none, false, .call false (.c (.fn i_law11_wakes [] [])) []⟩,
  ⟨some 2, none, false, .mv (.t 22)⟩]

def f_law11_LeaseDrills_r3 : List Abs.Op := [
  ⟨some 24, none, false, .ld true 5 (.t 1)⟩,
  ⟨some 25, none, false, .call false (.c (.fn i_law11_Programme [] [])) [(.t 24)]⟩,
  ⟨some 26, none, false, .call false (.c (.fn i_lease_Drill [] [])) [(.t 25)]⟩,
  ⟨some 23, none, false, .mv (.t 26)⟩,
  ⟨some 27, none, false, .ext (.t 23) 0⟩,
  ⟨some 28, none, false, .ext (.t 23) 1⟩,
  ⟨some 29, none, false, .ext (.t 23) 2⟩,
  ⟨some 30, none, false, .ext (.t 23) 3⟩,
  ⟨some 3, none, false, .mv (.t 27)⟩,
  ⟨some 4, none, false, .mv (.t 28)⟩,
  ⟨some 5, none, false, .mv (.t 29)⟩,
  ⟨some 6, none, false, .mv (.t 30)⟩]

def f_law11_LeaseDrills_r4 : List Abs.Op := [
  ⟨some 31, none, false, .ld true 5 (.t 1)⟩,
  ⟨some 32, none, false, .call false (.c (.fn i_ref11_RightProgramme [] [])) [(.t 31)]⟩,
  ⟨some 33, none, false, .un .not (.t 32)⟩]

def f_law11_LeaseDrills_r5 : List Abs.Op := [
  ⟨some 34, none, false, .mv (.t 6)⟩,
  ⟨some 35, none, false, .bin .eql (.t 34) (.c (.int .i64 1))⟩,
  ⟨some 36, none, false, .mv (.t 35)⟩,
  ⟨some 37, some (36, true), false, .mv (.t 3)⟩,
  ⟨some 38, some (36, true), false, .lenS (.t 37)⟩,
  ⟨some 39, some (36, true), false, .mv (.t 5)⟩,
  ⟨some 40, some (36, true), false, .lenS (.t 39)⟩,
  ⟨some 41, some (36, true), false, .bin .add (.t 38) (.t 40)⟩,
  ⟨some 42, some (36, true), false, .bin .eql (.t 41) (.c (.int .i64 0))⟩,
  ⟨some 43, none, false, .pick (.t 36) (.t 42) (.c (.bool false))⟩,
  ⟨some 44, none, false, .mv (.t 43)⟩,
  ⟨some 45, some (44, true), false, .mv (.t 4)⟩,
  ⟨some 46, some (44, true), false, .bin .eql (.t 45) (.c (.int .i64 0))⟩,
  ⟨some 47, none, false, .pick (.t 44) (.t 46) (.c (.bool false))⟩,
  ⟨some 48, none, false, .mv (.t 47)⟩,
  ⟨some 49, some (48, true), false, .call false (.c (.fn i_law11_wakes [] [])) []⟩,
  ⟨some 50, none, false, .pick (.t 48) (.t 49) (.c (.bool false))⟩,
  ⟨some 2, none, false, .mv (.t 50)⟩]

def f_law11_LeaseDrills_r6 : List Abs.Op := [
  ⟨some 51, none, false, .ld true 5 (.t 1)⟩,
  ⟨some 52, none, false, .fadr 0 (.t 1)⟩,
  ⟨some 53, none, false, .ld false 1 (.t 52)⟩,
  ⟨some 54, none, false, .call false (.c (.fn i_ref11_Least [] [])) [(.t 51), (.c (.int .i64 0)), (.t 53)]⟩,
  ⟨some 7, none, false, .mv (.t 54)⟩]

def f_law11_LeaseDrills_r7 : List Abs.Op := [
  ⟨some 55, none, false, .mv (.t 7)⟩,
  ⟨some 56, none, false, .bin .eql (.t 55) (.c (.int .i64 1000000000000))⟩]

def f_law11_LeaseDrills_r8 : List Abs.Op := [
  ⟨some 57, none, false, .mv (.t 6)⟩,
  ⟨some 58, none, false, .bin .eql (.t 57) (.c (.int .i64 7))⟩,
  ⟨some 59, none, false, .mv (.t 58)⟩,
  ⟨some 60, some (59, true), false, .mv (.t 3)⟩,
  ⟨some 61, some (59, true), false, .lenS (.t 60)⟩,
  ⟨some 62, some (59, true), false, .mv (.t 5)⟩,
  ⟨some 63, some (59, true), false, .lenS (.t 62)⟩,
  ⟨some 64, some (59, true), false, .bin .add (.t 61) (.t 63)⟩,
  ⟨some 65, some (59, true), false, .bin .eql (.t 64) (.c (.int .i64 0))⟩,
  ⟨some 66, none, false, .pick (.t 59) (.t 65) (.c (.bool false))⟩,
  ⟨some 67, none, false, .mv (.t 66)⟩,
  ⟨some 68, some (67, true), false, .mv (.t 4)⟩,
  ⟨some 69, some (67, true), false, .bin .eql (.t 68) (.c (.int .i64 0))⟩,
  ⟨some 70, none, false, .pick (.t 67) (.t 69) (.c (.bool false))⟩,
  ⟨some 71, none, false, .mv (.t 70)⟩,
  ⟨some 72, some (71, true), false, .call false (.c (.fn i_law11_wakes [] [])) []⟩,
  ⟨some 73, none, false, .pick (.t 71) (.t 72) (.c (.bool false))⟩,
  ⟨some 2, none, false, .mv (.t 73)⟩]

def f_law11_LeaseDrills_r9 : List Abs.Op := [
  ⟨some 74, none, true, .mv (.t 6)⟩,
  ⟨some 75, none, true, .bin .eql (.t 74) (.c (.int .i64 0))⟩,
  ⟨some 76, none, true, .mv (.t 75)⟩,
  ⟨some 77, some (76, true), true, .mv (.t 4)⟩,
  ⟨some 78, some (76, true), true, .mv (.t 7)⟩,
  ⟨some 79, some (76, true), true, .bin .eql (.t 77) (.t 78)⟩,
  ⟨some 80, none, true, .pick (.t 76) (.t 79) (.c (.bool false))⟩,
  ⟨some 81, none, true, .mv (.t 80)⟩,
  ⟨some 82, some (81, true), true, .mv (.t 3)⟩,
  ⟨some 83, some (81, true), true, .ld true 5 (.t 1)⟩,
  ⟨some 84, some (81, true), true, .call false (.c (.fn i_ref11_Drill [] [])) [(.t 83)]⟩,
  ⟨some 85, some (81, true), true, .call false (.c (.fn i_law11_ints [] [])) [(.t 82), (.t 84)]⟩,
  ⟨some 86, none, true, .pick (.t 81) (.t 85) (.c (.bool false))⟩,
  ⟨some 87, none, true, .mv (.t 86)⟩,
  ⟨some 88, some (87, true), true, .ld true 5 (.t 1)⟩,
  ⟨some 89, some (87, true), true, .mv (.t 3)⟩,
  ⟨some 90, some (87, true), true, .mv (.t 5)⟩,
  ⟨some 91, some (87, true), true, .call false (.c (.fn i_law11_back [] [])) [(.t 90)]⟩,
  ⟨some 92, some (87, true), false, .call false (.c (.fn i_ref11_Shows [] [])) [(.t 88), (.t 89), (.t 91)]⟩,
  ⟨some 93, none, false, .pick (.t 87) (.t 92) (.c (.bool false))⟩,
  ⟨some 94, none, false, .mv (.t 93)⟩,
  ⟨some 95, some (94, true), false, .call false (.c (.fn i_law11_wakes [] [])) []⟩,
  ⟨some 96, none, false, .pick (.t 94) (.t 95) (.c (.bool false))⟩,
  ⟨some 2, none, false, .mv (.t 96)⟩]

def a_law11_LeaseDrills : Ann := ⟨[(9, [2]), (8, [2]), (7, [1, 3, 4, 5, 6, 7, 56]), (6, [1, 3, 4, 5, 6, 7]), (5, [2]), (4, [1, 3, 4, 5, 6, 33]), (3, [1, 3, 4, 5, 6]), (2, [2]), (1, [1, 21]), (0, [1])], [], [], [], [], [], [], [], [], []⟩
def f_law11_LeaseDrills : Abs.Fn := ⟨1, [.t 2],
  (.seq (.reg [1] f_law11_LeaseDrills_r0) (.seq (.seq (.reg [1, 21] f_law11_LeaseDrills_r1) (.ite (.t 21) (.seq (.reg [2] f_law11_LeaseDrills_r2) .ret) .nop)) (.seq (.reg [1, 3, 4, 5, 6] f_law11_LeaseDrills_r3) (.seq (.seq (.reg [1, 3, 4, 5, 6, 33] f_law11_LeaseDrills_r4) (.ite (.t 33) (.seq (.reg [2] f_law11_LeaseDrills_r5) .ret) .nop)) (.seq (.reg [1, 3, 4, 5, 6, 7] f_law11_LeaseDrills_r6) (.seq (.seq (.reg [1, 3, 4, 5, 6, 7, 56] f_law11_LeaseDrills_r7) (.ite (.t 56) (.seq (.reg [2] f_law11_LeaseDrills_r8) .ret) .nop)) (.seq (.reg [2] f_law11_LeaseDrills_r9) .ret)))))))⟩

theorem e_law11_LeaseDrills_r0 : type_of% f_law11_LeaseDrills_r0.eq_1 := by_rfl f_law11_LeaseDrills_r0.eq_1
theorem e_law11_LeaseDrills_r1 : type_of% f_law11_LeaseDrills_r1.eq_1 := by_rfl f_law11_LeaseDrills_r1.eq_1
theorem e_law11_LeaseDrills_r2 : type_of% f_law11_LeaseDrills_r2.eq_1 := by_rfl f_law11_LeaseDrills_r2.eq_1
theorem e_law11_LeaseDrills_r3 : type_of% f_law11_LeaseDrills_r3.eq_1 := by_rfl f_law11_LeaseDrills_r3.eq_1
theorem e_law11_LeaseDrills_r4 : type_of% f_law11_LeaseDrills_r4.eq_1 := by_rfl f_law11_LeaseDrills_r4.eq_1
theorem e_law11_LeaseDrills_r5 : type_of% f_law11_LeaseDrills_r5.eq_1 := by_rfl f_law11_LeaseDrills_r5.eq_1
theorem e_law11_LeaseDrills_r6 : type_of% f_law11_LeaseDrills_r6.eq_1 := by_rfl f_law11_LeaseDrills_r6.eq_1
theorem e_law11_LeaseDrills_r7 : type_of% f_law11_LeaseDrills_r7.eq_1 := by_rfl f_law11_LeaseDrills_r7.eq_1
theorem e_law11_LeaseDrills_r8 : type_of% f_law11_LeaseDrills_r8.eq_1 := by_rfl f_law11_LeaseDrills_r8.eq_1
theorem e_law11_LeaseDrills_r9 : type_of% f_law11_LeaseDrills_r9.eq_1 := by_rfl f_law11_LeaseDrills_r9.eq_1
theorem e_law11_LeaseDrills : type_of% f_law11_LeaseDrills.eq_1 := by_rfl f_law11_LeaseDrills.eq_1
theorem ok_law11_LeaseDrills : fnC Tryz.prog a_law11_LeaseDrills Tryz.f3 = some f_law11_LeaseDrills := by kernel_rfl

/-! 4 fumarole/fumarolelaw11.LeaseSprings -/
def f_law11_LeaseSprings_r0 : List Abs.Op := [
  ⟨some 6, none, false, .mv (.c (.bool false))⟩]

def f_law11_LeaseSprings_r1 : List Abs.Op := [
  ⟨some 20, none, false, .mv (.t 0)⟩,
  ⟨some 21, none, false, .call false (.c (.fn i_law11_some [] [])) [(.t 20)]⟩,
  ⟨some 22, none, false, .un .not (.t 21)⟩,
  ⟨some 23, none, false, .mv (.t 22)⟩,
  ⟨some 24, some (23, false), false, .mv (.t 1)⟩,
  ⟨some 25, some (23, false), false, .lenS (.t 24)⟩,
  ⟨some 26, some (23, false), false, .bin .gtr (.t 25) (.c (.int .i64 30))⟩,
  ⟨some 27, none, false, .pick (.t 23) (.c (.bool true)) (.t 26)⟩]

def f_law11_LeaseSprings_r2 : List Abs.Op := [
  ⟨some 28, none, false, .call false (.c (.fn i_law11_wakes [] [])) []⟩,
  ⟨some 6, none, false, .mv (.t 28)⟩]

def f_law11_LeaseSprings_r3 : List Abs.Op := [
  ⟨some 30, none, false, .mv (.t 0)⟩,
  ⟨some 31, none, false, .call false (.c (.fn i_law11_Springs [] [])) [(.t 30)]⟩,
  ⟨some 32, none, false, .mv (.t 1)⟩,
  ⟨some 33, none, false, .call false (.c (.fn i_law11_list [] [])) [(.t 32)]⟩,
  ⟨some 34, none, false, .call false (.c (.fn i_lease_Behind [] [])) [(.t 31), (.t 33)]⟩,
  ⟨some 29, none, false, .mv (.t 34)⟩,
  ⟨some 35, none, false, .ext (.t 29) 0⟩,
  ⟨some 36, none, false, .ext (.t 29) 1⟩,
  ⟨some 7, none, false, .mv (.t 35)⟩,
  ⟨some 8, none, false, .mv (.t 36)⟩]

def f_law11_LeaseSprings_r4 : List Abs.Op := [
  ⟨some 38, none, false, .mv (.t 0)⟩,
  ⟨some 39, none, false, .call false (.c (.fn i_law11_Springs [] [])) [(.t 38)]⟩,
  ⟨some 40, none, false, .mv (.t 1)⟩,
  ⟨some 41, none, false, .call false (.c (.fn i_law11_list [] [])) [(.t 40)]⟩,
  ⟨some 42, none, false, .call false (.c (.fn i_lease_Harmed [] [])) [(.t 39), (.t 41)]⟩,
  ⟨some 37, none, false, .mv (.t 42)⟩,
  ⟨some 43, none, false, .ext (.t 37) 0⟩,
  ⟨some 44, none, false, .ext (.t 37) 1⟩,
  ⟨some 45, none, false, .ext (.t 37) 2⟩,
  ⟨some 9, none, false, .mv (.t 43)⟩,
  ⟨some 10, none, false, .mv (.t 44)⟩,
  ⟨some 11, none, false, .mv (.t 45)⟩]

def f_law11_LeaseSprings_r5 : List Abs.Op := [
  ⟨some 47, none, false, .mv (.t 0)⟩,
  ⟨some 48, none, false, .call false (.c (.fn i_law11_Springs [] [])) [(.t 47)]⟩,
  ⟨some 49, none, false, .mv (.t 1)⟩,
  ⟨some 50, none, false, .call false (.c (.fn i_law11_list [] [])) [(.t 49)]⟩,
  ⟨some 51, none, false, .mv (.t 2)⟩,
  ⟨some 52, none, false, .call false (.c (.fn i_lease_Room [] [])) [(.t 48), (.t 50), (.t 51)]⟩,
  ⟨some 46, none, false, .mv (.t 52)⟩,
  ⟨some 53, none, false, .ext (.t 46) 0⟩,
  ⟨some 54, none, false, .ext (.t 46) 1⟩,
  ⟨some 12, none, false, .mv (.t 53)⟩,
  ⟨some 13, none, false, .mv (.t 54)⟩]

def f_law11_LeaseSprings_r6 : List Abs.Op := [
  ⟨some 14, none, false, .mv (.c (.int .i64 0))⟩]

def f_law11_LeaseSprings_r7 : List Abs.Op := [
  ⟨some 55, none, false, .mv (.t 0)⟩,
  ⟨some 56, none, false, .call false (.c (.fn i_ref11_Springs [] [])) [(.t 55)]⟩,
  ⟨some 57, none, false, .un .not (.t 56)⟩]

def f_law11_LeaseSprings_r8 : List Abs.Op := [
  ⟨some 14, none, false, .mv (.c (.int .i64 1))⟩]

def f_law11_LeaseSprings_r9 : List Abs.Op := [
  ⟨some 58, none, false, .mv (.t 0)⟩,
  ⟨some 59, none, false, .mv (.t 1)⟩,
  ⟨some 60, none, false, .call false (.c (.fn i_ref11_Takes [] [])) [(.t 58), (.t 59)]⟩,
  ⟨some 61, none, false, .un .not (.t 60)⟩]

def f_law11_LeaseSprings_r10 : List Abs.Op := [
  ⟨some 14, none, false, .mv (.c (.int .i64 2))⟩]

def f_law11_LeaseSprings_r11 : List Abs.Op := [
  ⟨some 62, none, false, .mv (.t 0)⟩,
  ⟨some 63, none, false, .call false (.c (.fn i_law11_Springs [] [])) [(.t 62)]⟩,
  ⟨some 64, none, false, .call false (.c (.fn i_lease_CheckSprings [] [])) [(.t 63)]⟩,
  ⟨some 65, none, false, .bin .eql (.t 64) (.c (.int .i64 0))⟩,
  ⟨some 66, none, false, .mv (.t 0)⟩,
  ⟨some 67, none, false, .call false (.c (.fn i_ref11_Springs [] [])) [(.t 66)]⟩,
  ⟨some 68, none, false, .eqv false [none] true (.t 65) (.t 67)⟩,
  ⟨some 69, none, false, .mv (.t 68)⟩,
  ⟨some 70, some (69, false), false, .mv (.t 0)⟩,
  ⟨some 71, some (69, false), false, .call false (.c (.fn i_ref11_Springs [] [])) [(.t 70)]⟩,
  ⟨some 72, some (69, false), false, .un .not (.t 71)⟩,
  ⟨some 73, some (69, false), false, .mv (.t 72)⟩,
  ⟨some 74, some (73, true), false, .mv (.t 0)⟩,
  ⟨some 75, some (73, true), false, .call false (.c (.fn i_law11_Springs [] [])) [(.t 74)]⟩,
  ⟨some 76, some (73, true), false, .call false (.c (.fn i_lease_CheckSprings [] [])) [(.t 75)]⟩,
  ⟨some 77, some (73, true), false, .bin .neq (.t 76) (.c (.int .i64 1))⟩,
  ⟨some 78, some (69, false), false, .pick (.t 73) (.t 77) (.c (.bool false))⟩,
  ⟨some 79, none, false, .pick (.t 69) (.c (.bool true)) (.t 78)⟩]

def f_law11_LeaseSprings_r12 : List Abs.Op := [
  ⟨some 6, none, false, .mv (.c (.bool false))⟩]

def f_law11_LeaseSprings_r13 : List Abs.Op := [
  ⟨some 80, none, false, .mv (.t 14)⟩,
  ⟨some 81, none, false, .bin .neq (.t 80) (.c (.int .i64 0))⟩]

def f_law11_LeaseSprings_r14 : List Abs.Op := [
  ⟨some 82, none, false, .mv (.t 8)⟩,
  ⟨some 83, none, false, .mv (.t 14)⟩,
  ⟨some 84, none, false, .bin .eql (.t 82) (.t 83)⟩,
  ⟨some 85, none, false, .mv (.t 84)⟩,
  ⟨some 86, some (85, true), false, .mv (.t 11)⟩,
  ⟨some 87, some (85, true), false, .mv (.t 14)⟩,
  ⟨some 88, some (85, true), false, .bin .eql (.t 86) (.t 87)⟩,
  ⟨some 89, none, false, .pick (.t 85) (.t 88) (.c (.bool false))⟩,
  ⟨some 90, none, false, .mv (.t 89)⟩,
  ⟨some 91, some (90, true), false, .mv (.t 13)⟩,
  ⟨some 92, some (90, true), false, .mv (.t 14)⟩,
  ⟨some 93, some (90, true), false, .bin .eql (.t 91) (.t 92)⟩,
  ⟨some 94, none, false, .pick (.t 90) (.t 93) (.c (.bool false))⟩,
  ⟨some 95, none, false, .mv (.t 94)⟩,
  ⟨some 96, some (95, true), false, .mv (.t 7)⟩,
  ⟨some 97, some (95, true), false, .lenS (.t 96)⟩,
  ⟨some 98, some (95, true), false, .mv (.t 9)⟩,
  ⟨some 99, some (95, true), false, .lenS (.t 98)⟩,
  ⟨some 100, some (95, true), false, .bin .add (.t 97) (.t 99)⟩,
  ⟨some 101, some (95, true), false, .mv (.t 10)⟩,
  ⟨some 102, some (95, true), false, .lenS (.t 101)⟩,
  ⟨some 103, some (95, true), false, .bin .add (.t 100) (.t 102)⟩,
  ⟨some 104, some (95, true), false, .bin .eql (.t 103) (.c (.int .i64 0))⟩,
  ⟨some 105, none, false, .pick (.t 95) (.t 104) (.c (.bool false))⟩,
  ⟨some 106, none, false, .mv (.t 105)⟩,
  ⟨some 107, some (106, true), false, .mv (.t 12)⟩,
  ⟨some 108, some (106, true), false, .bin .eql (.t 107) (.c (.int .i64 0))⟩,
  ⟨some 109, none, false, .pick (.t 106) (.t 108) (.c (.bool false))⟩,
  ⟨some 110, none, false, .mv (.t 109)⟩,
  ⟨some 111, some (110, true), false, .call false (.c (.fn i_law11_wakes [] [])) []⟩,
  ⟨some 112, none, false, .pick (.t 110) (.t 111) (.c (.bool false))⟩,
  ⟨some 6, none, false, .mv (.t 112)⟩]

def f_law11_LeaseSprings_r15 : List Abs.Op := [
  ⟨some 15, none, false, .nilb 1⟩,
  ⟨some 16, none, false, .nilb 1⟩]

def f_law11_LeaseSprings_r16 : List Abs.Op := [
  ⟨some 17, none, false, .mv (.c (.int .i64 1000000))⟩]

def f_law11_LeaseSprings_r17 : List Abs.Op := [
  ⟨some 113, none, false, .mv (.t 2)⟩,
  ⟨some 114, none, false, .bin .geq (.t 113) (.c (.int .i64 0))⟩,
  ⟨some 115, none, false, .mv (.t 114)⟩,
  ⟨some 116, some (115, true), false, .mv (.t 2)⟩,
  ⟨some 117, some (115, true), false, .mv (.t 1)⟩,
  ⟨some 118, some (115, true), false, .lenS (.t 117)⟩,
  ⟨some 119, some (115, true), false, .bin .lss (.t 116) (.t 118)⟩,
  ⟨some 120, none, false, .pick (.t 115) (.t 119) (.c (.bool false))⟩]

def f_law11_LeaseSprings_r18 : List Abs.Op := [
  ⟨some 121, none, false, .mv (.t 1)⟩,
  ⟨some 122, none, false, .mv (.t 2)⟩,
  ⟨some 123, none, false, .idxS 1 (.t 121) (.t 122)⟩,
  ⟨some 124, none, false, .ld false 1 (.t 123)⟩,
  ⟨some 125, none, false, .bin .sub (.c (.int .i64 1000000)) (.t 124)⟩,
  ⟨some 17, none, false, .mv (.t 125)⟩]

def f_law11_LeaseSprings_r19 : List Abs.Op := [
  ⟨some 126, none, false, .mv (.t 8)⟩,
  ⟨some 127, none, false, .bin .neq (.t 126) (.c (.int .i64 0))⟩,
  ⟨some 128, none, false, .mv (.t 127)⟩,
  ⟨some 129, some (128, false), false, .mv (.t 11)⟩,
  ⟨some 130, some (128, false), false, .bin .neq (.t 129) (.c (.int .i64 0))⟩,
  ⟨some 131, none, false, .pick (.t 128) (.c (.bool true)) (.t 130)⟩,
  ⟨some 132, none, false, .mv (.t 131)⟩,
  ⟨some 133, some (132, false), false, .mv (.t 7)⟩,
  ⟨some 134, some (132, false), false, .lenS (.t 133)⟩,
  ⟨some 135, some (132, false), false, .mv (.t 0)⟩,
  ⟨some 136, some (132, false), false, .lenS (.t 135)⟩,
  ⟨some 137, some (132, false), false, .bin .neq (.t 134) (.t 136)⟩,
  ⟨some 138, none, false, .pick (.t 132) (.c (.bool true)) (.t 137)⟩]

def f_law11_LeaseSprings_r20 : List Abs.Op := [
  ⟨some 6, none, false, .mv (.c (.bool false))⟩]

def f_law11_LeaseSprings_r21 : List Abs.Op := [
  ⟨some 18, none, false, .mv (.c (.int .i64 0))⟩]

def f_law11_LeaseSprings_r22 : List Abs.Op := [
  ⟨some 139, none, false, .mv (.t 18)⟩,
  ⟨some 140, none, false, .mv (.t 0)⟩,
  ⟨some 141, none, false, .lenS (.t 140)⟩,
  ⟨some 142, none, false, .bin .lss (.t 139) (.t 141)⟩]

def f_law11_LeaseSprings_r23 : List Abs.Op := [
  ⟨some 145, none, false, .mv (.t 0)⟩,
  ⟨some 146, none, false, .mv (.t 18)⟩,
  ⟨some 147, none, false, .idxS 3 (.t 145) (.t 146)⟩,
  ⟨some 148, none, false, .ld true 3 (.t 147)⟩,
  ⟨some 149, none, false, .mv (.t 1)⟩,
  ⟨some 150, none, false, .call false (.c (.fn i_ref11_Behind [] [])) [(.t 148), (.t 149)]⟩,
  ⟨some 19, none, false, .alcv [] [(.int .i64 0), (.int .i64 0)]⟩,
  ⟨none, none, false, .stv 19 [] 2 19 (.t 150)⟩]

def f_law11_LeaseSprings_r24 : List Abs.Op := [
  ⟨some 151, none, true, .mv (.t 7)⟩,
  ⟨some 152, none, true, .mv (.t 18)⟩,
  ⟨some 153, none, true, .idxS 2 (.t 151) (.t 152)⟩,
  ⟨some 154, none, true, .fadr 0 (.t 153)⟩,
  ⟨some 155, none, true, .ld false 1 (.t 154)⟩,
  ⟨some 156, none, true, .fadr 0 (.t 19)⟩,
  ⟨some 157, none, true, .ldv 19 false 1 156⟩,
  ⟨some 158, none, true, .bin .neq (.t 155) (.t 157)⟩,
  ⟨some 159, none, true, .mv (.t 158)⟩,
  ⟨some 160, some (159, false), true, .mv (.t 7)⟩,
  ⟨some 161, some (159, false), true, .mv (.t 18)⟩,
  ⟨some 162, some (159, false), true, .idxS 2 (.t 160) (.t 161)⟩,
  ⟨some 163, some (159, false), true, .fadr 1 (.t 162)⟩,
  ⟨some 164, some (159, false), true, .ld false 1 (.t 163)⟩,
  ⟨some 165, some (159, false), true, .fadr 1 (.t 19)⟩,
  ⟨some 166, some (159, false), true, .ldv 19 false 1 165⟩,
  ⟨some 167, some (159, false), false, .bin .neq (.t 164) (.t 166)⟩,
  ⟨some 168, none, false, .pick (.t 159) (.c (.bool true)) (.t 167)⟩]

def f_law11_LeaseSprings_r25 : List Abs.Op := [
  ⟨some 6, none, false, .mv (.c (.bool false))⟩]

def f_law11_LeaseSprings_r26 : List Abs.Op := [
  ⟨some 169, none, true, .fadr 0 (.t 19)⟩,
  ⟨some 170, none, true, .ldv 19 false 1 169⟩,
  ⟨some 171, none, true, .mv (.t 0)⟩,
  ⟨some 172, none, true, .mv (.t 18)⟩,
  ⟨some 173, none, true, .idxS 3 (.t 171) (.t 172)⟩,
  ⟨some 174, none, true, .fadr 1 (.t 173)⟩,
  ⟨some 175, none, true, .ld false 1 (.t 174)⟩,
  ⟨some 176, none, true, .bin .mul (.c (.int .i64 1000)) (.t 175)⟩,
  ⟨some 177, none, false, .bin .lss (.t 170) (.t 176)⟩]

def f_law11_LeaseSprings_r27 : List Abs.Op := [
  ⟨some 178, none, false, .mv (.t 15)⟩,
  ⟨some 179, none, false, .mv (.t 18)⟩,
  ⟨some 180, none, false, .bsi 1 1 [(.int .i64 0)] [(0, 1, (.t 179))]⟩,
  ⟨some 181, none, false, .app 1 8 (.t 178) (.t 180)⟩,
  ⟨some 15, none, false, .mv (.t 181)⟩]

def f_law11_LeaseSprings_r28 : List Abs.Op := [
  ⟨some 182, none, true, .fadr 1 (.t 19)⟩,
  ⟨some 183, none, true, .ldv 19 false 1 182⟩,
  ⟨some 184, none, true, .mv (.t 0)⟩,
  ⟨some 185, none, true, .mv (.t 18)⟩,
  ⟨some 186, none, true, .idxS 3 (.t 184) (.t 185)⟩,
  ⟨some 187, none, true, .fadr 1 (.t 186)⟩,
  ⟨some 188, none, true, .ld false 1 (.t 187)⟩,
  ⟨some 189, none, true, .bin .mul (.c (.int .i64 1000)) (.t 188)⟩,
  ⟨some 190, none, false, .bin .lss (.t 183) (.t 189)⟩]

def f_law11_LeaseSprings_r29 : List Abs.Op := [
  ⟨some 191, none, false, .mv (.t 16)⟩,
  ⟨some 192, none, false, .mv (.t 18)⟩,
  ⟨some 193, none, false, .bsi 1 1 [(.int .i64 0)] [(0, 1, (.t 192))]⟩,
  ⟨some 194, none, false, .app 1 8 (.t 191) (.t 193)⟩,
  ⟨some 16, none, false, .mv (.t 194)⟩]

def f_law11_LeaseSprings_r30 : List Abs.Op := [
  ⟨some 195, none, false, .mv (.t 2)⟩,
  ⟨some 196, none, false, .bin .geq (.t 195) (.c (.int .i64 0))⟩,
  ⟨some 197, none, false, .mv (.t 196)⟩,
  ⟨some 198, some (197, true), false, .mv (.t 2)⟩,
  ⟨some 199, some (197, true), false, .mv (.t 1)⟩,
  ⟨some 200, some (197, true), false, .lenS (.t 199)⟩,
  ⟨some 201, some (197, true), false, .bin .lss (.t 198) (.t 200)⟩,
  ⟨some 202, none, false, .pick (.t 197) (.t 201) (.c (.bool false))⟩,
  ⟨some 203, none, false, .mv (.t 202)⟩,
  ⟨some 204, some (203, true), false, .mv (.t 0)⟩,
  ⟨some 205, some (203, true), false, .mv (.t 18)⟩,
  ⟨some 206, some (203, true), false, .idxS 3 (.t 204) (.t 205)⟩,
  ⟨some 207, some (203, true), false, .fadr 2 (.t 206)⟩,
  ⟨some 208, some (203, true), false, .ld false 1 (.t 207)⟩,
  ⟨some 209, some (203, true), false, .mv (.t 2)⟩,
  ⟨some 210, some (203, true), false, .idxS 2 (.t 208) (.t 209)⟩,
  ⟨some 211, some (203, true), false, .fadr 1 (.t 210)⟩,
  ⟨some 212, some (203, true), false, .ld false 1 (.t 211)⟩,
  ⟨some 213, some (203, true), false, .bin .gtr (.t 212) (.c (.int .i64 0))⟩,
  ⟨some 214, none, false, .pick (.t 203) (.t 213) (.c (.bool false))⟩]

def f_law11_LeaseSprings_r31 : List Abs.Op := [
  ⟨some 215, none, true, .mv (.t 17)⟩,
  ⟨some 216, none, true, .fadr 0 (.t 19)⟩,
  ⟨some 217, none, true, .ldv 19 false 1 216⟩,
  ⟨some 218, none, true, .mv (.t 0)⟩,
  ⟨some 219, none, true, .mv (.t 18)⟩,
  ⟨some 220, none, true, .idxS 3 (.t 218) (.t 219)⟩,
  ⟨some 221, none, true, .fadr 1 (.t 220)⟩,
  ⟨some 222, none, true, .ld false 1 (.t 221)⟩,
  ⟨some 223, none, true, .bin .mul (.c (.int .i64 1000)) (.t 222)⟩,
  ⟨some 224, none, true, .bin .sub (.t 217) (.t 223)⟩,
  ⟨some 225, none, true, .mv (.t 0)⟩,
  ⟨some 226, none, true, .mv (.t 18)⟩,
  ⟨some 227, none, true, .idxS 3 (.t 225) (.t 226)⟩,
  ⟨some 228, none, true, .fadr 2 (.t 227)⟩,
  ⟨some 229, none, true, .ld false 1 (.t 228)⟩,
  ⟨some 230, none, true, .mv (.t 2)⟩,
  ⟨some 231, none, true, .idxS 2 (.t 229) (.t 230)⟩,
  ⟨some 232, none, true, .fadr 1 (.t 231)⟩,
  ⟨some 233, none, true, .ld false 1 (.t 232)⟩,
  ⟨some 234, none, true, .bin .quo (.t 224) (.t 233)⟩,
  ⟨some 235, none, false, .mn (.t 215) (.t 234)⟩,
  ⟨some 17, none, false, .mv (.t 235)⟩]

def f_law11_LeaseSprings_r32 : List Abs.Op := [
  ⟨some 143, none, false, .mv (.t 18)⟩,
  ⟨some 144, none, false, .bin .add (.t 143) (.c (.int .i64 1))⟩,
  ⟨some 18, none, false, .mv (.t 144)⟩]

def f_law11_LeaseSprings_l33 : Abs.Cmd :=
  (.seq (.seq (.reg [0, 1, 2, 7, 9, 10, 12, 13, 15, 16, 17, 18, 142] f_law11_LeaseSprings_r22) (.ite (.t 142) .nop (.exit 0))) (.seq (.blk 1 (.seq (.reg [0, 1, 2, 7, 9, 10, 12, 13, 15, 16, 17, 18, 19] f_law11_LeaseSprings_r23) (.seq (.seq (.reg [0, 1, 2, 7, 9, 10, 12, 13, 15, 16, 17, 18, 19, 168] f_law11_LeaseSprings_r24) (.ite (.t 168) (.seq (.reg [6] f_law11_LeaseSprings_r25) .ret) .nop)) (.seq (.seq (.reg [0, 1, 2, 7, 9, 10, 12, 13, 15, 16, 17, 18, 19, 177] f_law11_LeaseSprings_r26) (.ite (.t 177) (.reg [0, 1, 2, 7, 9, 10, 12, 13, 15, 16, 17, 18, 19] f_law11_LeaseSprings_r27) .nop)) (.seq (.seq (.reg [0, 1, 2, 7, 9, 10, 12, 13, 15, 16, 17, 18, 19, 190] f_law11_LeaseSprings_r28) (.ite (.t 190) (.reg [0, 1, 2, 7, 9, 10, 12, 13, 15, 16, 17, 18, 19] f_law11_LeaseSprings_r29) .nop)) (.seq (.reg [0, 1, 2, 7, 9, 10, 12, 13, 15, 16, 17, 18, 19, 214] f_law11_LeaseSprings_r30) (.ite (.t 214) (.reg [0, 1, 2, 7, 9, 10, 12, 13, 15, 16, 17, 18] f_law11_LeaseSprings_r31) .nop))))))) (.reg [0, 1, 2, 7, 9, 10, 12, 13, 15, 16, 17, 18] f_law11_LeaseSprings_r32)))

def f_law11_LeaseSprings_r34 : List Abs.Op := [
  ⟨some 236, none, false, .mv (.t 9)⟩,
  ⟨some 237, none, false, .mv (.t 15)⟩,
  ⟨some 238, none, false, .call false (.c (.fn i_law11_ints [] [])) [(.t 236), (.t 237)]⟩,
  ⟨some 239, none, false, .un .not (.t 238)⟩,
  ⟨some 240, none, false, .mv (.t 239)⟩,
  ⟨some 241, some (240, false), false, .mv (.t 10)⟩,
  ⟨some 242, some (240, false), false, .mv (.t 16)⟩,
  ⟨some 243, some (240, false), false, .call false (.c (.fn i_law11_ints [] [])) [(.t 241), (.t 242)]⟩,
  ⟨some 244, some (240, false), false, .un .not (.t 243)⟩,
  ⟨some 245, none, false, .pick (.t 240) (.c (.bool true)) (.t 244)⟩]

def f_law11_LeaseSprings_r35 : List Abs.Op := [
  ⟨some 6, none, false, .mv (.c (.bool false))⟩]

def f_law11_LeaseSprings_r36 : List Abs.Op := [
  ⟨some 246, none, false, .mv (.t 2)⟩,
  ⟨some 247, none, false, .bin .lss (.t 246) (.c (.int .i64 0))⟩,
  ⟨some 248, none, false, .mv (.t 247)⟩,
  ⟨some 249, some (248, false), false, .mv (.t 2)⟩,
  ⟨some 250, some (248, false), false, .mv (.t 1)⟩,
  ⟨some 251, some (248, false), false, .lenS (.t 250)⟩,
  ⟨some 252, some (248, false), false, .bin .geq (.t 249) (.t 251)⟩,
  ⟨some 253, none, false, .pick (.t 248) (.c (.bool true)) (.t 252)⟩]

def f_law11_LeaseSprings_r37 : List Abs.Op := [
  ⟨some 254, none, false, .mv (.t 13)⟩,
  ⟨some 255, none, false, .bin .eql (.t 254) (.c (.int .i64 2))⟩,
  ⟨some 256, none, false, .mv (.t 255)⟩,
  ⟨some 257, some (256, true), false, .mv (.t 12)⟩,
  ⟨some 258, some (256, true), false, .bin .eql (.t 257) (.c (.int .i64 0))⟩,
  ⟨some 259, none, false, .pick (.t 256) (.t 258) (.c (.bool false))⟩,
  ⟨some 260, none, false, .mv (.t 259)⟩,
  ⟨some 261, some (260, true), false, .call false (.c (.fn i_law11_wakes [] [])) []⟩,
  ⟨some 262, none, false, .pick (.t 260) (.t 261) (.c (.bool false))⟩,
  ⟨some 6, none, false, .mv (.t 262)⟩]

def f_law11_LeaseSprings_r38 : List Abs.Op := [
  ⟨some 263, none, false, .mv (.t 15)⟩,
  ⟨some 264, none, false, .lenS (.t 263)⟩,
  ⟨some 265, none, false, .bin .gtr (.t 264) (.c (.int .i64 0))⟩]

def f_law11_LeaseSprings_r39 : List Abs.Op := [
  ⟨some 266, none, false, .mv (.t 13)⟩,
  ⟨some 267, none, false, .bin .eql (.t 266) (.c (.int .i64 9))⟩,
  ⟨some 268, none, false, .mv (.t 267)⟩,
  ⟨some 269, some (268, true), false, .mv (.t 12)⟩,
  ⟨some 270, some (268, true), false, .bin .eql (.t 269) (.c (.int .i64 0))⟩,
  ⟨some 271, none, false, .pick (.t 268) (.t 270) (.c (.bool false))⟩,
  ⟨some 272, none, false, .mv (.t 271)⟩,
  ⟨some 273, some (272, true), false, .call false (.c (.fn i_law11_wakes [] [])) []⟩,
  ⟨some 274, none, false, .pick (.t 272) (.t 273) (.c (.bool false))⟩,
  ⟨some 6, none, false, .mv (.t 274)⟩]

def f_law11_LeaseSprings_r40 : List Abs.Op := [
  ⟨some 275, none, false, .mv (.t 13)⟩,
  ⟨some 276, none, false, .bin .eql (.t 275) (.c (.int .i64 0))⟩,
  ⟨some 277, none, false, .mv (.t 276)⟩,
  ⟨some 278, some (277, true), false, .mv (.t 12)⟩,
  ⟨some 279, some (277, true), false, .mv (.t 17)⟩,
  ⟨some 280, some (277, true), false, .bin .eql (.t 278) (.t 279)⟩,
  ⟨some 281, none, false, .pick (.t 277) (.t 280) (.c (.bool false))⟩,
  ⟨some 282, none, false, .mv (.t 281)⟩,
  ⟨some 283, some (282, true), false, .call false (.c (.fn i_law11_wakes [] [])) []⟩,
  ⟨some 284, none, false, .pick (.t 282) (.t 283) (.c (.bool false))⟩,
  ⟨some 6, none, false, .mv (.t 284)⟩]

def a_law11_LeaseSprings : Ann := ⟨[(39, [6]), (38, [6]), (37, [12, 13, 17, 265]), (36, [6]), (35, [12, 13, 15, 17, 253]), (34, [6]), (33, [1, 2, 12, 13, 15, 17, 245]), (23, [0, 1, 2, 7, 9, 10, 12, 13, 15, 16, 17, 18]), (32, [0, 1, 2, 7, 9, 10, 12, 13, 15, 16, 17, 18]), (31, [0, 1, 2, 7, 9, 10, 12, 13, 15, 16, 17, 18, 19, 214]), (30, [0, 1, 2, 7, 9, 10, 12, 13, 15, 16, 17, 18, 19]), (29, [0, 1, 2, 7, 9, 10, 12, 13, 15, 16, 17, 18, 19, 190]), (28, [0, 1, 2, 7, 9, 10, 12, 13, 15, 16, 17, 18, 19]), (27, [0, 1, 2, 7, 9, 10, 12, 13, 15, 16, 17, 18, 19, 177]), (26, [6]), (25, [0, 1, 2, 7, 9, 10, 12, 13, 15, 16, 17, 18, 19, 168]), (24, [0, 1, 2, 7, 9, 10, 12, 13, 15, 16, 17, 18, 19]), (22, [0, 1, 2, 7, 9, 10, 12, 13, 15, 16, 17, 18, 142]), (21, [0, 1, 2, 7, 9, 10, 12, 13, 15, 16, 17, 18]), (20, [6]), (19, [0, 1, 2, 7, 9, 10, 12, 13, 15, 16, 17, 138]), (18, [0, 1, 2, 7, 8, 9, 10, 11, 12, 13, 15, 16, 17]), (17, [0, 1, 2, 7, 8, 9, 10, 11, 12, 13, 15, 16, 17, 120]), (16, [0, 1, 2, 7, 8, 9, 10, 11, 12, 13, 15, 16, 17]), (15, [0, 1, 2, 7, 8, 9, 10, 11, 12, 13, 15, 16]), (14, [6]), (13, [0, 1, 2, 7, 8, 9, 10, 11, 12, 13, 14, 81]), (12, [6]), (11, [0, 1, 2, 7, 8, 9, 10, 11, 12, 13, 14, 79]), (8, [0, 1, 2, 7, 8, 9, 10, 11, 12, 13, 14]), (10, [0, 1, 2, 7, 8, 9, 10, 11, 12, 13, 14]), (9, [0, 1, 2, 7, 8, 9, 10, 11, 12, 13, 14, 61]), (7, [0, 1, 2, 7, 8, 9, 10, 11, 12, 13, 14, 57]), (6, [0, 1, 2, 7, 8, 9, 10, 11, 12, 13, 14]), (5, [0, 1, 2, 7, 8, 9, 10, 11, 12, 13]), (4, [0, 1, 2, 7, 8, 9, 10, 11]), (3, [0, 1, 2, 7, 8]), (2, [6]), (1, [0, 1, 2, 27]), (0, [0, 1, 2])], [(0, [0, 1, 2, 7, 9, 10, 12, 13, 15, 16, 17, 18])], [], [15, 16, 19], [19], [], [], [(33, [15, 16])], [], []⟩
def f_law11_LeaseSprings : Abs.Fn := ⟨3, [.t 6],
  (.seq (.reg [0, 1, 2] f_law11_LeaseSprings_r0) (.seq (.seq (.reg [0, 1, 2, 27] f_law11_LeaseSprings_r1) (.ite (.t 27) (.seq (.reg [6] f_law11_LeaseSprings_r2) .ret) .nop)) (.seq (.reg [0, 1, 2, 7, 8] f_law11_LeaseSprings_r3) (.seq (.reg [0, 1, 2, 7, 8, 9, 10, 11] f_law11_LeaseSprings_r4) (.seq (.reg [0, 1, 2, 7, 8, 9, 10, 11, 12, 13] f_law11_LeaseSprings_r5) (.seq (.reg [0, 1, 2, 7, 8, 9, 10, 11, 12, 13, 14] f_law11_LeaseSprings_r6) (.seq (.seq (.reg [0, 1, 2, 7, 8, 9, 10, 11, 12, 13, 14, 57] f_law11_LeaseSprings_r7) (.ite (.t 57) (.reg [0, 1, 2, 7, 8, 9, 10, 11, 12, 13, 14] f_law11_LeaseSprings_r8) (.seq (.reg [0, 1, 2, 7, 8, 9, 10, 11, 12, 13, 14, 61] f_law11_LeaseSprings_r9) (.ite (.t 61) (.reg [0, 1, 2, 7, 8, 9, 10, 11, 12, 13, 14] f_law11_LeaseSprings_r10) .nop)))) (.seq (.seq (.reg [0, 1, 2, 7, 8, 9, 10, 11, 12, 13, 14, 79] f_law11_LeaseSprings_r11) (.ite (.t 79) (.seq (.reg [6] f_law11_LeaseSprings_r12) .ret) .nop)) (.seq (.seq (.reg [0, 1, 2, 7, 8, 9, 10, 11, 12, 13, 14, 81] f_law11_LeaseSprings_r13) (.ite (.t 81) (.seq (.reg [6] f_law11_LeaseSprings_r14) .ret) .nop)) (.seq (.reg [0, 1, 2, 7, 8, 9, 10, 11, 12, 13, 15, 16] f_law11_LeaseSprings_r15) (.seq (.reg [0, 1, 2, 7, 8, 9, 10, 11, 12, 13, 15, 16, 17] f_law11_LeaseSprings_r16) (.seq (.seq (.reg [0, 1, 2, 7, 8, 9, 10, 11, 12, 13, 15, 16, 17, 120] f_law11_LeaseSprings_r17) (.ite (.t 120) (.reg [0, 1, 2, 7, 8, 9, 10, 11, 12, 13, 15, 16, 17] f_law11_LeaseSprings_r18) .nop)) (.seq (.seq (.reg [0, 1, 2, 7, 9, 10, 12, 13, 15, 16, 17, 138] f_law11_LeaseSprings_r19) (.ite (.t 138) (.seq (.reg [6] f_law11_LeaseSprings_r20) .ret) .nop)) (.seq (.seq (.reg [0, 1, 2, 7, 9, 10, 12, 13, 15, 16, 17, 18] f_law11_LeaseSprings_r21) (.blk 0 (.loop [0, 1, 2, 7, 9, 10, 12, 13, 15, 16, 17, 18] false f_law11_LeaseSprings_l33))) (.seq (.seq (.seq (.frz [15, 16]) (.reg [1, 2, 12, 13, 15, 17, 245] f_law11_LeaseSprings_r34)) (.ite (.t 245) (.seq (.reg [6] f_law11_LeaseSprings_r35) .ret) .nop)) (.seq (.seq (.reg [12, 13, 15, 17, 253] f_law11_LeaseSprings_r36) (.ite (.t 253) (.seq (.reg [6] f_law11_LeaseSprings_r37) .ret) .nop)) (.seq (.seq (.reg [12, 13, 17, 265] f_law11_LeaseSprings_r38) (.ite (.t 265) (.seq (.reg [6] f_law11_LeaseSprings_r39) .ret) .nop)) (.seq (.reg [6] f_law11_LeaseSprings_r40) .ret))))))))))))))))))⟩

theorem e_law11_LeaseSprings_r0 : type_of% f_law11_LeaseSprings_r0.eq_1 := by_rfl f_law11_LeaseSprings_r0.eq_1
theorem e_law11_LeaseSprings_r1 : type_of% f_law11_LeaseSprings_r1.eq_1 := by_rfl f_law11_LeaseSprings_r1.eq_1
theorem e_law11_LeaseSprings_r2 : type_of% f_law11_LeaseSprings_r2.eq_1 := by_rfl f_law11_LeaseSprings_r2.eq_1
theorem e_law11_LeaseSprings_r3 : type_of% f_law11_LeaseSprings_r3.eq_1 := by_rfl f_law11_LeaseSprings_r3.eq_1
theorem e_law11_LeaseSprings_r4 : type_of% f_law11_LeaseSprings_r4.eq_1 := by_rfl f_law11_LeaseSprings_r4.eq_1
theorem e_law11_LeaseSprings_r5 : type_of% f_law11_LeaseSprings_r5.eq_1 := by_rfl f_law11_LeaseSprings_r5.eq_1
theorem e_law11_LeaseSprings_r6 : type_of% f_law11_LeaseSprings_r6.eq_1 := by_rfl f_law11_LeaseSprings_r6.eq_1
theorem e_law11_LeaseSprings_r7 : type_of% f_law11_LeaseSprings_r7.eq_1 := by_rfl f_law11_LeaseSprings_r7.eq_1
theorem e_law11_LeaseSprings_r8 : type_of% f_law11_LeaseSprings_r8.eq_1 := by_rfl f_law11_LeaseSprings_r8.eq_1
theorem e_law11_LeaseSprings_r9 : type_of% f_law11_LeaseSprings_r9.eq_1 := by_rfl f_law11_LeaseSprings_r9.eq_1
theorem e_law11_LeaseSprings_r10 : type_of% f_law11_LeaseSprings_r10.eq_1 := by_rfl f_law11_LeaseSprings_r10.eq_1
theorem e_law11_LeaseSprings_r11 : type_of% f_law11_LeaseSprings_r11.eq_1 := by_rfl f_law11_LeaseSprings_r11.eq_1
theorem e_law11_LeaseSprings_r12 : type_of% f_law11_LeaseSprings_r12.eq_1 := by_rfl f_law11_LeaseSprings_r12.eq_1
theorem e_law11_LeaseSprings_r13 : type_of% f_law11_LeaseSprings_r13.eq_1 := by_rfl f_law11_LeaseSprings_r13.eq_1
theorem e_law11_LeaseSprings_r14 : type_of% f_law11_LeaseSprings_r14.eq_1 := by_rfl f_law11_LeaseSprings_r14.eq_1
theorem e_law11_LeaseSprings_r15 : type_of% f_law11_LeaseSprings_r15.eq_1 := by_rfl f_law11_LeaseSprings_r15.eq_1
theorem e_law11_LeaseSprings_r16 : type_of% f_law11_LeaseSprings_r16.eq_1 := by_rfl f_law11_LeaseSprings_r16.eq_1
theorem e_law11_LeaseSprings_r17 : type_of% f_law11_LeaseSprings_r17.eq_1 := by_rfl f_law11_LeaseSprings_r17.eq_1
theorem e_law11_LeaseSprings_r18 : type_of% f_law11_LeaseSprings_r18.eq_1 := by_rfl f_law11_LeaseSprings_r18.eq_1
theorem e_law11_LeaseSprings_r19 : type_of% f_law11_LeaseSprings_r19.eq_1 := by_rfl f_law11_LeaseSprings_r19.eq_1
theorem e_law11_LeaseSprings_r20 : type_of% f_law11_LeaseSprings_r20.eq_1 := by_rfl f_law11_LeaseSprings_r20.eq_1
theorem e_law11_LeaseSprings_r21 : type_of% f_law11_LeaseSprings_r21.eq_1 := by_rfl f_law11_LeaseSprings_r21.eq_1
theorem e_law11_LeaseSprings_r22 : type_of% f_law11_LeaseSprings_r22.eq_1 := by_rfl f_law11_LeaseSprings_r22.eq_1
theorem e_law11_LeaseSprings_r23 : type_of% f_law11_LeaseSprings_r23.eq_1 := by_rfl f_law11_LeaseSprings_r23.eq_1
theorem e_law11_LeaseSprings_r24 : type_of% f_law11_LeaseSprings_r24.eq_1 := by_rfl f_law11_LeaseSprings_r24.eq_1
theorem e_law11_LeaseSprings_r25 : type_of% f_law11_LeaseSprings_r25.eq_1 := by_rfl f_law11_LeaseSprings_r25.eq_1
theorem e_law11_LeaseSprings_r26 : type_of% f_law11_LeaseSprings_r26.eq_1 := by_rfl f_law11_LeaseSprings_r26.eq_1
theorem e_law11_LeaseSprings_r27 : type_of% f_law11_LeaseSprings_r27.eq_1 := by_rfl f_law11_LeaseSprings_r27.eq_1
theorem e_law11_LeaseSprings_r28 : type_of% f_law11_LeaseSprings_r28.eq_1 := by_rfl f_law11_LeaseSprings_r28.eq_1
theorem e_law11_LeaseSprings_r29 : type_of% f_law11_LeaseSprings_r29.eq_1 := by_rfl f_law11_LeaseSprings_r29.eq_1
theorem e_law11_LeaseSprings_r30 : type_of% f_law11_LeaseSprings_r30.eq_1 := by_rfl f_law11_LeaseSprings_r30.eq_1
theorem e_law11_LeaseSprings_r31 : type_of% f_law11_LeaseSprings_r31.eq_1 := by_rfl f_law11_LeaseSprings_r31.eq_1
theorem e_law11_LeaseSprings_r32 : type_of% f_law11_LeaseSprings_r32.eq_1 := by_rfl f_law11_LeaseSprings_r32.eq_1
theorem e_law11_LeaseSprings_l33 : type_of% f_law11_LeaseSprings_l33.eq_1 := by_rfl f_law11_LeaseSprings_l33.eq_1
theorem e_law11_LeaseSprings_r34 : type_of% f_law11_LeaseSprings_r34.eq_1 := by_rfl f_law11_LeaseSprings_r34.eq_1
theorem e_law11_LeaseSprings_r35 : type_of% f_law11_LeaseSprings_r35.eq_1 := by_rfl f_law11_LeaseSprings_r35.eq_1
theorem e_law11_LeaseSprings_r36 : type_of% f_law11_LeaseSprings_r36.eq_1 := by_rfl f_law11_LeaseSprings_r36.eq_1
theorem e_law11_LeaseSprings_r37 : type_of% f_law11_LeaseSprings_r37.eq_1 := by_rfl f_law11_LeaseSprings_r37.eq_1
theorem e_law11_LeaseSprings_r38 : type_of% f_law11_LeaseSprings_r38.eq_1 := by_rfl f_law11_LeaseSprings_r38.eq_1
theorem e_law11_LeaseSprings_r39 : type_of% f_law11_LeaseSprings_r39.eq_1 := by_rfl f_law11_LeaseSprings_r39.eq_1
theorem e_law11_LeaseSprings_r40 : type_of% f_law11_LeaseSprings_r40.eq_1 := by_rfl f_law11_LeaseSprings_r40.eq_1
theorem e_law11_LeaseSprings : type_of% f_law11_LeaseSprings.eq_1 := by_rfl f_law11_LeaseSprings.eq_1
theorem ok_law11_LeaseSprings : fnC Tryz.prog a_law11_LeaseSprings Tryz.f4 = some f_law11_LeaseSprings := by kernel_rfl

/-! 5 fumarole/fumarolelaw11.LeaseDues -/
def f_law11_LeaseDues_r0 : List Abs.Op := [
  ⟨some 3, none, false, .boxi (.t 0)⟩,
  ⟨some 6, none, false, .mv (.c (.bool false))⟩]

def f_law11_LeaseDues_r1 : List Abs.Op := [
  ⟨some 20, none, false, .ld true 2 (.t 3)⟩,
  ⟨some 21, none, false, .call false (.c (.fn i_law11_few [] [])) [(.t 20)]⟩,
  ⟨some 22, none, false, .un .not (.t 21)⟩,
  ⟨some 23, none, false, .mv (.t 22)⟩,
  ⟨some 24, some (23, false), false, .mv (.t 1)⟩,
  ⟨some 25, some (23, false), false, .lenS (.t 24)⟩,
  ⟨some 26, some (23, false), false, .bin .gtr (.t 25) (.c (.int .i64 30))⟩,
  ⟨some 27, none, false, .pick (.t 23) (.c (.bool true)) (.t 26)⟩,
  ⟨some 28, none, false, .mv (.t 27)⟩,
  ⟨some 29, some (28, false), false, .mv (.t 2)⟩,
  ⟨some 30, some (28, false), false, .lenS (.t 29)⟩,
  ⟨some 31, some (28, false), false, .bin .gtr (.t 30) (.c (.int .i64 30))⟩,
  ⟨some 32, none, false, .pick (.t 28) (.c (.bool true)) (.t 31)⟩]

def f_law11_LeaseDues_r2 : List Abs.Op := [
  ⟨some 33, none, false, .call false (.c (.fn i_law11_wakes [] [])) []⟩,
  ⟨some 6, none, false, .mv (.t 33)⟩]

def f_law11_LeaseDues_r3 : List Abs.Op := [
  ⟨some 35, none, false, .ld true 2 (.t 3)⟩,
  ⟨some 36, none, false, .call false (.c (.fn i_law11_Concession [] [])) [(.t 35)]⟩,
  ⟨some 37, none, false, .mv (.t 2)⟩,
  ⟨some 38, none, false, .call false (.c (.fn i_law11_list [] [])) [(.t 37)]⟩,
  ⟨some 39, none, false, .call false (.c (.fn i_lease_Due [] [])) [(.t 36), (.t 38)]⟩,
  ⟨some 34, none, false, .mv (.t 39)⟩,
  ⟨some 40, none, false, .ext (.t 34) 0⟩,
  ⟨some 41, none, false, .ext (.t 34) 1⟩,
  ⟨some 42, none, false, .ext (.t 34) 2⟩,
  ⟨some 7, none, false, .mv (.t 40)⟩,
  ⟨some 8, none, false, .mv (.t 41)⟩,
  ⟨some 9, none, false, .mv (.t 42)⟩]

def f_law11_LeaseDues_r4 : List Abs.Op := [
  ⟨some 44, none, false, .ld true 2 (.t 3)⟩,
  ⟨some 45, none, false, .call false (.c (.fn i_law11_Concession [] [])) [(.t 44)]⟩,
  ⟨some 46, none, false, .mv (.t 1)⟩,
  ⟨some 47, none, false, .call false (.c (.fn i_law11_list [] [])) [(.t 46)]⟩,
  ⟨some 48, none, false, .mv (.t 2)⟩,
  ⟨some 49, none, false, .call false (.c (.fn i_law11_list [] [])) [(.t 48)]⟩,
  ⟨some 50, none, false, .call false (.c (.fn i_lease_Divide [] [])) [(.t 45), (.t 47), (.t 49)]⟩,
  ⟨some 43, none, false, .mv (.t 50)⟩,
  ⟨some 51, none, false, .ext (.t 43) 0⟩,
  ⟨some 52, none, false, .ext (.t 43) 1⟩,
  ⟨some 53, none, false, .ext (.t 43) 2⟩,
  ⟨some 10, none, false, .mv (.t 51)⟩,
  ⟨some 11, none, false, .mv (.t 52)⟩,
  ⟨some 12, none, false, .mv (.t 53)⟩]

def f_law11_LeaseDues_r5 : List Abs.Op := [
  ⟨some 54, none, false, .ld true 2 (.t 3)⟩,
  ⟨some 55, none, false, .call false (.c (.fn i_ref11_Right [] [])) [(.t 54)]⟩,
  ⟨some 56, none, false, .un .not (.t 55)⟩]

def f_law11_LeaseDues_r6 : List Abs.Op := [
  ⟨some 57, none, false, .ld true 2 (.t 3)⟩,
  ⟨some 58, none, false, .call false (.c (.fn i_law11_Concession [] [])) [(.t 57)]⟩,
  ⟨some 59, none, false, .call false (.c (.fn i_lease_CheckConcession [] [])) [(.t 58)]⟩,
  ⟨some 60, none, false, .bin .eql (.t 59) (.c (.int .i64 1))⟩,
  ⟨some 61, none, false, .mv (.t 60)⟩,
  ⟨some 62, some (61, true), false, .mv (.t 9)⟩,
  ⟨some 63, some (61, true), false, .bin .eql (.t 62) (.c (.int .i64 1))⟩,
  ⟨some 64, none, false, .pick (.t 61) (.t 63) (.c (.bool false))⟩,
  ⟨some 65, none, false, .mv (.t 64)⟩,
  ⟨some 66, some (65, true), false, .mv (.t 12)⟩,
  ⟨some 67, some (65, true), false, .bin .eql (.t 66) (.c (.int .i64 1))⟩,
  ⟨some 68, none, false, .pick (.t 65) (.t 67) (.c (.bool false))⟩,
  ⟨some 69, none, false, .mv (.t 68)⟩,
  ⟨some 70, some (69, true), false, .mv (.t 7)⟩,
  ⟨some 71, some (69, true), false, .lenS (.t 70)⟩,
  ⟨some 72, some (69, true), false, .mv (.t 10)⟩,
  ⟨some 73, some (69, true), false, .lenS (.t 72)⟩,
  ⟨some 74, some (69, true), false, .bin .add (.t 71) (.t 73)⟩,
  ⟨some 75, some (69, true), false, .bin .eql (.t 74) (.c (.int .i64 0))⟩,
  ⟨some 76, none, false, .pick (.t 69) (.t 75) (.c (.bool false))⟩,
  ⟨some 77, none, false, .mv (.t 76)⟩,
  ⟨some 78, some (77, true), false, .mv (.t 8)⟩,
  ⟨some 79, some (77, true), false, .bin .eql (.t 78) (.c (.int .i64 0))⟩,
  ⟨some 80, none, false, .pick (.t 77) (.t 79) (.c (.bool false))⟩,
  ⟨some 81, none, false, .mv (.t 80)⟩,
  ⟨some 82, some (81, true), false, .mv (.t 11)⟩,
  ⟨some 83, some (81, true), false, .bin .eql (.t 82) (.c (.int .i64 0))⟩,
  ⟨some 84, none, false, .pick (.t 81) (.t 83) (.c (.bool false))⟩,
  ⟨some 85, none, false, .mv (.t 84)⟩,
  ⟨some 86, some (85, true), false, .call false (.c (.fn i_law11_wakes [] [])) []⟩,
  ⟨some 87, none, false, .pick (.t 85) (.t 86) (.c (.bool false))⟩,
  ⟨some 6, none, false, .mv (.t 87)⟩]

def f_law11_LeaseDues_r7 : List Abs.Op := [
  ⟨some 88, none, false, .ld true 2 (.t 3)⟩,
  ⟨some 89, none, false, .call false (.c (.fn i_law11_Concession [] [])) [(.t 88)]⟩,
  ⟨some 90, none, false, .call false (.c (.fn i_lease_CheckConcession [] [])) [(.t 89)]⟩,
  ⟨some 91, none, false, .bin .neq (.t 90) (.c (.int .i64 0))⟩]

def f_law11_LeaseDues_r8 : List Abs.Op := [
  ⟨some 6, none, false, .mv (.c (.bool false))⟩]

def f_law11_LeaseDues_r9 : List Abs.Op := [
  ⟨some 92, none, false, .ld true 2 (.t 3)⟩,
  ⟨some 93, none, false, .mv (.t 2)⟩,
  ⟨some 94, none, false, .call false (.c (.fn i_ref11_Masses [] [])) [(.t 92), (.t 93)]⟩,
  ⟨some 95, none, false, .un .not (.t 94)⟩]

def f_law11_LeaseDues_r10 : List Abs.Op := [
  ⟨some 96, none, false, .mv (.t 9)⟩,
  ⟨some 97, none, false, .bin .eql (.t 96) (.c (.int .i64 2))⟩,
  ⟨some 98, none, false, .mv (.t 97)⟩,
  ⟨some 99, some (98, true), false, .mv (.t 12)⟩,
  ⟨some 100, some (98, true), false, .bin .eql (.t 99) (.c (.int .i64 2))⟩,
  ⟨some 101, none, false, .pick (.t 98) (.t 100) (.c (.bool false))⟩,
  ⟨some 102, none, false, .mv (.t 101)⟩,
  ⟨some 103, some (102, true), false, .mv (.t 7)⟩,
  ⟨some 104, some (102, true), false, .lenS (.t 103)⟩,
  ⟨some 105, some (102, true), false, .mv (.t 10)⟩,
  ⟨some 106, some (102, true), false, .lenS (.t 105)⟩,
  ⟨some 107, some (102, true), false, .bin .add (.t 104) (.t 106)⟩,
  ⟨some 108, some (102, true), false, .bin .eql (.t 107) (.c (.int .i64 0))⟩,
  ⟨some 109, none, false, .pick (.t 102) (.t 108) (.c (.bool false))⟩,
  ⟨some 110, none, false, .mv (.t 109)⟩,
  ⟨some 111, some (110, true), false, .mv (.t 8)⟩,
  ⟨some 112, some (110, true), false, .bin .eql (.t 111) (.c (.int .i64 0))⟩,
  ⟨some 113, none, false, .pick (.t 110) (.t 112) (.c (.bool false))⟩,
  ⟨some 114, none, false, .mv (.t 113)⟩,
  ⟨some 115, some (114, true), false, .mv (.t 11)⟩,
  ⟨some 116, some (114, true), false, .bin .eql (.t 115) (.c (.int .i64 0))⟩,
  ⟨some 117, none, false, .pick (.t 114) (.t 116) (.c (.bool false))⟩,
  ⟨some 118, none, false, .mv (.t 117)⟩,
  ⟨some 119, some (118, true), false, .call false (.c (.fn i_law11_wakes [] [])) []⟩,
  ⟨some 120, none, false, .pick (.t 118) (.t 119) (.c (.bool false))⟩,
  ⟨some 6, none, false, .mv (.t 120)⟩]

def f_law11_LeaseDues_r11 : List Abs.Op := [
  ⟨some 122, none, false, .ld true 2 (.t 3)⟩,
  ⟨some 123, none, false, .mv (.t 2)⟩,
  ⟨some 124, none, false, .call false (.c (.fn i_ref11_Due [] [])) [(.t 122), (.t 123)]⟩,
  ⟨some 121, none, false, .mv (.t 124)⟩,
  ⟨some 125, none, false, .ext (.t 121) 0⟩,
  ⟨some 126, none, false, .ext (.t 121) 1⟩,
  ⟨some 13, none, false, .mv (.t 125)⟩,
  ⟨some 14, none, false, .mv (.t 126)⟩]

def f_law11_LeaseDues_r12 : List Abs.Op := [
  ⟨some 127, none, false, .mv (.t 9)⟩,
  ⟨some 128, none, false, .bin .neq (.t 127) (.c (.int .i64 0))⟩,
  ⟨some 129, none, false, .mv (.t 128)⟩,
  ⟨some 130, some (129, false), false, .mv (.t 7)⟩,
  ⟨some 131, some (129, false), false, .mv (.t 13)⟩,
  ⟨some 132, some (129, false), false, .call false (.c (.fn i_law11_ints [] [])) [(.t 130), (.t 131)]⟩,
  ⟨some 133, some (129, false), false, .un .not (.t 132)⟩,
  ⟨some 134, none, false, .pick (.t 129) (.c (.bool true)) (.t 133)⟩,
  ⟨some 135, none, false, .mv (.t 134)⟩,
  ⟨some 136, some (135, false), false, .mv (.t 8)⟩,
  ⟨some 137, some (135, false), false, .mv (.t 14)⟩,
  ⟨some 138, some (135, false), false, .bin .neq (.t 136) (.t 137)⟩,
  ⟨some 139, none, false, .pick (.t 135) (.c (.bool true)) (.t 138)⟩]

def f_law11_LeaseDues_r13 : List Abs.Op := [
  ⟨some 6, none, false, .mv (.c (.bool false))⟩]

def f_law11_LeaseDues_r14 : List Abs.Op := [
  ⟨some 140, none, true, .ld true 2 (.t 3)⟩,
  ⟨some 141, none, true, .mv (.t 1)⟩,
  ⟨some 142, none, true, .call false (.c (.fn i_ref11_Masses [] [])) [(.t 140), (.t 141)]⟩,
  ⟨some 143, none, true, .un .not (.t 142)⟩,
  ⟨some 144, none, true, .mv (.t 143)⟩,
  ⟨some 145, some (144, false), true, .ld true 2 (.t 3)⟩,
  ⟨some 146, some (144, false), true, .mv (.t 1)⟩,
  ⟨some 147, some (144, false), true, .mv (.t 2)⟩,
  ⟨some 148, some (144, false), true, .call false (.c (.fn i_ref11_Both [] [])) [(.t 146), (.t 147)]⟩,
  ⟨some 149, some (144, false), false, .call false (.c (.fn i_ref11_Masses [] [])) [(.t 145), (.t 148)]⟩,
  ⟨some 150, some (144, false), false, .un .not (.t 149)⟩,
  ⟨some 151, none, false, .pick (.t 144) (.c (.bool true)) (.t 150)⟩]

def f_law11_LeaseDues_r15 : List Abs.Op := [
  ⟨some 152, none, false, .mv (.t 12)⟩,
  ⟨some 153, none, false, .bin .eql (.t 152) (.c (.int .i64 2))⟩,
  ⟨some 154, none, false, .mv (.t 153)⟩,
  ⟨some 155, some (154, true), false, .mv (.t 10)⟩,
  ⟨some 156, some (154, true), false, .lenS (.t 155)⟩,
  ⟨some 157, some (154, true), false, .bin .eql (.t 156) (.c (.int .i64 0))⟩,
  ⟨some 158, none, false, .pick (.t 154) (.t 157) (.c (.bool false))⟩,
  ⟨some 159, none, false, .mv (.t 158)⟩,
  ⟨some 160, some (159, true), false, .mv (.t 11)⟩,
  ⟨some 161, some (159, true), false, .bin .eql (.t 160) (.c (.int .i64 0))⟩,
  ⟨some 162, none, false, .pick (.t 159) (.t 161) (.c (.bool false))⟩,
  ⟨some 163, none, false, .mv (.t 162)⟩,
  ⟨some 164, some (163, true), false, .call false (.c (.fn i_law11_wakes [] [])) []⟩,
  ⟨some 165, none, false, .pick (.t 163) (.t 164) (.c (.bool false))⟩,
  ⟨some 6, none, false, .mv (.t 165)⟩]

def f_law11_LeaseDues_r16 : List Abs.Op := [
  ⟨some 167, none, false, .ld true 2 (.t 3)⟩,
  ⟨some 168, none, false, .mv (.t 1)⟩,
  ⟨some 169, none, false, .call false (.c (.fn i_ref11_Due [] [])) [(.t 167), (.t 168)]⟩,
  ⟨some 166, none, false, .mv (.t 169)⟩,
  ⟨some 170, none, false, .ext (.t 166) 0⟩,
  ⟨some 171, none, false, .ext (.t 166) 1⟩,
  ⟨some 15, none, false, .mv (.t 170)⟩,
  ⟨some 16, none, false, .mv (.t 171)⟩]

def f_law11_LeaseDues_r17 : List Abs.Op := [
  ⟨some 173, none, true, .ld true 2 (.t 3)⟩,
  ⟨some 174, none, true, .mv (.t 1)⟩,
  ⟨some 175, none, true, .mv (.t 2)⟩,
  ⟨some 176, none, true, .call false (.c (.fn i_ref11_Both [] [])) [(.t 174), (.t 175)]⟩,
  ⟨some 177, none, false, .call true (.c (.fn i_ref11_Due [] [])) [(.t 173), (.t 176)]⟩,
  ⟨some 172, none, true, .mv (.t 177)⟩,
  ⟨some 178, none, true, .ext (.t 172) 0⟩,
  ⟨some 179, none, true, .ext (.t 172) 1⟩,
  ⟨some 17, none, true, .mv (.t 178)⟩,
  ⟨some 18, none, false, .mv (.t 179)⟩]

def f_law11_LeaseDues_r18 : List Abs.Op := [
  ⟨some 19, none, false, .mv (.c (.int .i64 0))⟩]

def f_law11_LeaseDues_r19 : List Abs.Op := [
  ⟨some 180, none, false, .mv (.t 19)⟩,
  ⟨some 181, none, false, .mv (.t 17)⟩,
  ⟨some 182, none, false, .lenS (.t 181)⟩,
  ⟨some 183, none, false, .bin .lss (.t 180) (.t 182)⟩]

def f_law11_LeaseDues_r20 : List Abs.Op := [
  ⟨some 186, none, true, .mv (.t 17)⟩,
  ⟨some 187, none, true, .mv (.t 19)⟩,
  ⟨some 188, none, true, .mv (.t 17)⟩,
  ⟨some 189, none, true, .mv (.t 19)⟩,
  ⟨some 190, none, true, .idxS 1 (.t 188) (.t 189)⟩,
  ⟨some 191, none, true, .ld false 1 (.t 190)⟩,
  ⟨some 192, none, true, .mv (.t 15)⟩,
  ⟨some 193, none, true, .mv (.t 19)⟩,
  ⟨some 194, none, true, .idxS 1 (.t 192) (.t 193)⟩,
  ⟨some 195, none, true, .ld false 1 (.t 194)⟩,
  ⟨some 196, none, true, .bin .sub (.t 191) (.t 195)⟩,
  ⟨some 197, none, false, .idxS 1 (.t 186) (.t 187)⟩,
  ⟨none, none, false, .st [] 1 (.t 197) (.t 196)⟩]

def f_law11_LeaseDues_r21 : List Abs.Op := [
  ⟨some 184, none, false, .mv (.t 19)⟩,
  ⟨some 185, none, false, .bin .add (.t 184) (.c (.int .i64 1))⟩,
  ⟨some 19, none, false, .mv (.t 185)⟩]

def f_law11_LeaseDues_l22 : Abs.Cmd :=
  (.seq (.seq (.reg [10, 11, 12, 15, 16, 17, 18, 19, 183] f_law11_LeaseDues_r19) (.ite (.t 183) .nop (.exit 0))) (.seq (.blk 1 (.reg [10, 11, 12, 15, 16, 17, 18, 19] f_law11_LeaseDues_r20)) (.reg [10, 11, 12, 15, 16, 17, 18, 19] f_law11_LeaseDues_r21)))

def f_law11_LeaseDues_r23 : List Abs.Op := [
  ⟨some 198, none, false, .mv (.t 12)⟩,
  ⟨some 199, none, false, .bin .eql (.t 198) (.c (.int .i64 0))⟩,
  ⟨some 200, none, false, .mv (.t 199)⟩,
  ⟨some 201, some (200, true), false, .mv (.t 10)⟩,
  ⟨some 202, some (200, true), false, .mv (.t 17)⟩,
  ⟨some 203, some (200, true), false, .call false (.c (.fn i_law11_ints [] [])) [(.t 201), (.t 202)]⟩,
  ⟨some 204, none, false, .pick (.t 200) (.t 203) (.c (.bool false))⟩,
  ⟨some 205, none, false, .mv (.t 204)⟩,
  ⟨some 206, some (205, true), false, .mv (.t 11)⟩,
  ⟨some 207, some (205, true), false, .mv (.t 18)⟩,
  ⟨some 208, some (205, true), false, .mv (.t 16)⟩,
  ⟨some 209, some (205, true), false, .bin .sub (.t 207) (.t 208)⟩,
  ⟨some 210, some (205, true), false, .bin .eql (.t 206) (.t 209)⟩,
  ⟨some 211, none, false, .pick (.t 205) (.t 210) (.c (.bool false))⟩,
  ⟨some 212, none, false, .mv (.t 211)⟩,
  ⟨some 213, some (212, true), false, .call false (.c (.fn i_law11_wakes [] [])) []⟩,
  ⟨some 214, none, false, .pick (.t 212) (.t 213) (.c (.bool false))⟩,
  ⟨some 6, none, false, .mv (.t 214)⟩]

def a_law11_LeaseDues : Ann := ⟨[(22, [6]), (20, [10, 11, 12, 15, 16, 17, 18, 19]), (21, [10, 11, 12, 15, 16, 17, 18, 19]), (19, [10, 11, 12, 15, 16, 17, 18, 19, 183]), (18, [10, 11, 12, 15, 16, 17, 18, 19]), (17, [10, 11, 12, 15, 16, 17, 18]), (16, [1, 2, 3, 10, 11, 12, 15, 16]), (15, [6]), (14, [1, 2, 3, 10, 11, 12, 151]), (13, [6]), (12, [1, 2, 3, 10, 11, 12, 139]), (11, [1, 2, 3, 7, 8, 9, 10, 11, 12, 13, 14]), (10, [6]), (9, [1, 2, 3, 7, 8, 9, 10, 11, 12, 95]), (8, [6]), (7, [1, 2, 3, 7, 8, 9, 10, 11, 12, 91]), (6, [6]), (5, [1, 2, 3, 7, 8, 9, 10, 11, 12, 56]), (4, [1, 2, 3, 7, 8, 9, 10, 11, 12]), (3, [1, 2, 3, 7, 8, 9]), (2, [6]), (1, [1, 2, 3, 32]), (0, [1, 2, 3])], [(0, [10, 11, 12, 15, 16, 17, 18, 19])], [], [], [], [], [17004], [(22, [17])], [], []⟩
def f_law11_LeaseDues : Abs.Fn := ⟨3, [.t 6],
  (.seq (.reg [1, 2, 3] f_law11_LeaseDues_r0) (.seq (.seq (.reg [1, 2, 3, 32] f_law11_LeaseDues_r1) (.ite (.t 32) (.seq (.reg [6] f_law11_LeaseDues_r2) .ret) .nop)) (.seq (.reg [1, 2, 3, 7, 8, 9] f_law11_LeaseDues_r3) (.seq (.reg [1, 2, 3, 7, 8, 9, 10, 11, 12] f_law11_LeaseDues_r4) (.seq (.seq (.reg [1, 2, 3, 7, 8, 9, 10, 11, 12, 56] f_law11_LeaseDues_r5) (.ite (.t 56) (.seq (.reg [6] f_law11_LeaseDues_r6) .ret) .nop)) (.seq (.seq (.reg [1, 2, 3, 7, 8, 9, 10, 11, 12, 91] f_law11_LeaseDues_r7) (.ite (.t 91) (.seq (.reg [6] f_law11_LeaseDues_r8) .ret) .nop)) (.seq (.seq (.reg [1, 2, 3, 7, 8, 9, 10, 11, 12, 95] f_law11_LeaseDues_r9) (.ite (.t 95) (.seq (.reg [6] f_law11_LeaseDues_r10) .ret) .nop)) (.seq (.reg [1, 2, 3, 7, 8, 9, 10, 11, 12, 13, 14] f_law11_LeaseDues_r11) (.seq (.seq (.reg [1, 2, 3, 10, 11, 12, 139] f_law11_LeaseDues_r12) (.ite (.t 139) (.seq (.reg [6] f_law11_LeaseDues_r13) .ret) .nop)) (.seq (.seq (.reg [1, 2, 3, 10, 11, 12, 151] f_law11_LeaseDues_r14) (.ite (.t 151) (.seq (.reg [6] f_law11_LeaseDues_r15) .ret) .nop)) (.seq (.reg [1, 2, 3, 10, 11, 12, 15, 16] f_law11_LeaseDues_r16) (.seq (.reg [10, 11, 12, 15, 16, 17, 18] f_law11_LeaseDues_r17) (.seq (.seq (.reg [10, 11, 12, 15, 16, 17, 18, 19] f_law11_LeaseDues_r18) (.blk 0 (.loop [10, 11, 12, 15, 16, 17, 18, 19] false f_law11_LeaseDues_l22))) (.seq (.seq (.frz [17]) (.reg [6] f_law11_LeaseDues_r23)) .ret))))))))))))))⟩

theorem e_law11_LeaseDues_r0 : type_of% f_law11_LeaseDues_r0.eq_1 := by_rfl f_law11_LeaseDues_r0.eq_1
theorem e_law11_LeaseDues_r1 : type_of% f_law11_LeaseDues_r1.eq_1 := by_rfl f_law11_LeaseDues_r1.eq_1
theorem e_law11_LeaseDues_r2 : type_of% f_law11_LeaseDues_r2.eq_1 := by_rfl f_law11_LeaseDues_r2.eq_1
theorem e_law11_LeaseDues_r3 : type_of% f_law11_LeaseDues_r3.eq_1 := by_rfl f_law11_LeaseDues_r3.eq_1
theorem e_law11_LeaseDues_r4 : type_of% f_law11_LeaseDues_r4.eq_1 := by_rfl f_law11_LeaseDues_r4.eq_1
theorem e_law11_LeaseDues_r5 : type_of% f_law11_LeaseDues_r5.eq_1 := by_rfl f_law11_LeaseDues_r5.eq_1
theorem e_law11_LeaseDues_r6 : type_of% f_law11_LeaseDues_r6.eq_1 := by_rfl f_law11_LeaseDues_r6.eq_1
theorem e_law11_LeaseDues_r7 : type_of% f_law11_LeaseDues_r7.eq_1 := by_rfl f_law11_LeaseDues_r7.eq_1
theorem e_law11_LeaseDues_r8 : type_of% f_law11_LeaseDues_r8.eq_1 := by_rfl f_law11_LeaseDues_r8.eq_1
theorem e_law11_LeaseDues_r9 : type_of% f_law11_LeaseDues_r9.eq_1 := by_rfl f_law11_LeaseDues_r9.eq_1
theorem e_law11_LeaseDues_r10 : type_of% f_law11_LeaseDues_r10.eq_1 := by_rfl f_law11_LeaseDues_r10.eq_1
theorem e_law11_LeaseDues_r11 : type_of% f_law11_LeaseDues_r11.eq_1 := by_rfl f_law11_LeaseDues_r11.eq_1
theorem e_law11_LeaseDues_r12 : type_of% f_law11_LeaseDues_r12.eq_1 := by_rfl f_law11_LeaseDues_r12.eq_1
theorem e_law11_LeaseDues_r13 : type_of% f_law11_LeaseDues_r13.eq_1 := by_rfl f_law11_LeaseDues_r13.eq_1
theorem e_law11_LeaseDues_r14 : type_of% f_law11_LeaseDues_r14.eq_1 := by_rfl f_law11_LeaseDues_r14.eq_1
theorem e_law11_LeaseDues_r15 : type_of% f_law11_LeaseDues_r15.eq_1 := by_rfl f_law11_LeaseDues_r15.eq_1
theorem e_law11_LeaseDues_r16 : type_of% f_law11_LeaseDues_r16.eq_1 := by_rfl f_law11_LeaseDues_r16.eq_1
theorem e_law11_LeaseDues_r17 : type_of% f_law11_LeaseDues_r17.eq_1 := by_rfl f_law11_LeaseDues_r17.eq_1
theorem e_law11_LeaseDues_r18 : type_of% f_law11_LeaseDues_r18.eq_1 := by_rfl f_law11_LeaseDues_r18.eq_1
theorem e_law11_LeaseDues_r19 : type_of% f_law11_LeaseDues_r19.eq_1 := by_rfl f_law11_LeaseDues_r19.eq_1
theorem e_law11_LeaseDues_r20 : type_of% f_law11_LeaseDues_r20.eq_1 := by_rfl f_law11_LeaseDues_r20.eq_1
theorem e_law11_LeaseDues_r21 : type_of% f_law11_LeaseDues_r21.eq_1 := by_rfl f_law11_LeaseDues_r21.eq_1
theorem e_law11_LeaseDues_l22 : type_of% f_law11_LeaseDues_l22.eq_1 := by_rfl f_law11_LeaseDues_l22.eq_1
theorem e_law11_LeaseDues_r23 : type_of% f_law11_LeaseDues_r23.eq_1 := by_rfl f_law11_LeaseDues_r23.eq_1
theorem e_law11_LeaseDues : type_of% f_law11_LeaseDues.eq_1 := by_rfl f_law11_LeaseDues.eq_1
theorem ok_law11_LeaseDues : fnC Tryz.prog a_law11_LeaseDues Tryz.f5 = some f_law11_LeaseDues := by kernel_rfl

/-! 6 fumarole/fumarolelaw11.LeaseProves -/
def f_law11_LeaseProves_r0 : List Abs.Op := [
  ⟨some 7, none, false, .boxi (.t 0)⟩,
  ⟨some 14, none, false, .mv (.c (.bool false))⟩]

def f_law11_LeaseProves_r1 : List Abs.Op := [
  ⟨some 25, none, false, .fadr 4 (.t 7)⟩,
  ⟨some 26, none, false, .ld false 1 (.t 25)⟩,
  ⟨some 27, none, false, .lenS (.t 26)⟩,
  ⟨some 28, none, false, .bin .gtr (.t 27) (.c (.int .i64 6))⟩,
  ⟨some 29, none, false, .mv (.t 28)⟩,
  ⟨some 30, some (29, false), false, .mv (.t 1)⟩,
  ⟨some 31, some (29, false), false, .lenS (.t 30)⟩,
  ⟨some 32, some (29, false), false, .bin .gtr (.t 31) (.c (.int .i64 12))⟩,
  ⟨some 33, none, false, .pick (.t 29) (.c (.bool true)) (.t 32)⟩,
  ⟨some 34, none, false, .mv (.t 33)⟩,
  ⟨some 35, some (34, false), false, .mv (.t 2)⟩,
  ⟨some 36, some (34, false), false, .lenS (.t 35)⟩,
  ⟨some 37, some (34, false), false, .bin .gtr (.t 36) (.c (.int .i64 12))⟩,
  ⟨some 38, none, false, .pick (.t 34) (.c (.bool true)) (.t 37)⟩]

def f_law11_LeaseProves_r2 : List Abs.Op := [
  ⟨some 39, none, false, .call false (.c (.fn i_law11_wakes [] [])) []⟩,
  ⟨some 14, none, false, .mv (.t 39)⟩]

def f_law11_LeaseProves_r3 : List Abs.Op := [
  ⟨some 15, none, false, .mv (.c (.int .i64 0))⟩]

def f_law11_LeaseProves_r4 : List Abs.Op := [
  ⟨some 40, none, false, .mv (.t 15)⟩,
  ⟨some 41, none, false, .mv (.t 2)⟩,
  ⟨some 42, none, false, .lenS (.t 41)⟩,
  ⟨some 43, none, false, .bin .lss (.t 40) (.t 42)⟩]

def f_law11_LeaseProves_r5 : List Abs.Op := [
  ⟨some 46, none, false, .mv (.t 2)⟩,
  ⟨some 47, none, false, .mv (.t 15)⟩,
  ⟨some 48, none, false, .idxS 1 (.t 46) (.t 47)⟩,
  ⟨some 49, none, false, .ld false 1 (.t 48)⟩,
  ⟨some 50, none, false, .lenS (.t 49)⟩,
  ⟨some 51, none, false, .bin .gtr (.t 50) (.c (.int .i64 60))⟩]

def f_law11_LeaseProves_r6 : List Abs.Op := [
  ⟨some 52, none, false, .call false (.c (.fn i_law11_wakes [] [])) []⟩,
  ⟨some 14, none, false, .mv (.t 52)⟩]

def f_law11_LeaseProves_r7 : List Abs.Op := [
  ⟨some 44, none, false, .mv (.t 15)⟩,
  ⟨some 45, none, false, .bin .add (.t 44) (.c (.int .i64 1))⟩,
  ⟨some 15, none, false, .mv (.t 45)⟩]

def f_law11_LeaseProves_l8 : Abs.Cmd :=
  (.seq (.seq (.reg [1, 2, 3, 4, 5, 6, 7, 15, 43] f_law11_LeaseProves_r4) (.ite (.t 43) .nop (.exit 0))) (.seq (.blk 1 (.seq (.reg [1, 2, 3, 4, 5, 6, 7, 15, 51] f_law11_LeaseProves_r5) (.ite (.t 51) (.seq (.reg [14] f_law11_LeaseProves_r6) .ret) .nop))) (.reg [1, 2, 3, 4, 5, 6, 7, 15] f_law11_LeaseProves_r7)))

def f_law11_LeaseProves_r9 : List Abs.Op := [
  ⟨some 53, none, false, .ld true 5 (.t 7)⟩,
  ⟨some 54, none, false, .call false (.c (.fn i_ref11_RightProgramme [] [])) [(.t 53)]⟩,
  ⟨some 16, none, false, .mv (.t 54)⟩]

def f_law11_LeaseProves_r10 : List Abs.Op := [
  ⟨some 55, none, false, .mv (.t 1)⟩,
  ⟨some 56, none, false, .call true (.c (.fn i_law11_list [] [])) [(.t 55)]⟩,
  ⟨some 57, none, false, .mv (.t 2)⟩,
  ⟨some 58, none, false, .call true (.c (.fn i_law11_table [] [])) [(.t 57)]⟩,
  ⟨some 17, none, false, .mv (.t 56)⟩,
  ⟨some 18, none, false, .mv (.t 58)⟩]

def f_law11_LeaseProves_r11 : List Abs.Op := [
  ⟨some 59, none, false, .mv (.t 3)⟩,
  ⟨some 60, none, false, .mv (.t 59)⟩,
  ⟨some 61, some (60, true), false, .mv (.t 16)⟩,
  ⟨some 62, none, false, .pick (.t 60) (.t 61) (.c (.bool false))⟩]

def f_law11_LeaseProves_r12 : List Abs.Op := [
  ⟨some 64, none, false, .ld true 5 (.t 7)⟩,
  ⟨some 65, none, false, .call false (.c (.fn i_law11_Programme [] [])) [(.t 64)]⟩,
  ⟨some 66, none, false, .call false (.c (.fn i_lease_Drill [] [])) [(.t 65)]⟩,
  ⟨some 63, none, false, .mv (.t 66)⟩,
  ⟨some 67, none, false, .ext (.t 63) 0⟩,
  ⟨some 68, none, false, .ext (.t 63) 1⟩,
  ⟨some 69, none, false, .ext (.t 63) 2⟩,
  ⟨some 70, none, false, .ext (.t 63) 3⟩,
  ⟨some 19, none, false, .mv (.t 67)⟩,
  ⟨some 20, none, false, .mv (.t 68)⟩,
  ⟨some 21, none, false, .mv (.t 69)⟩,
  ⟨some 22, none, false, .mv (.t 70)⟩]

def f_law11_LeaseProves_r13 : List Abs.Op := [
  ⟨some 71, none, false, .mv (.t 22)⟩,
  ⟨some 72, none, false, .bin .neq (.t 71) (.c (.int .i64 0))⟩]

def f_law11_LeaseProves_r14 : List Abs.Op := [
  ⟨some 73, none, false, .mv (.t 22)⟩,
  ⟨some 74, none, false, .bin .eql (.t 73) (.c (.int .i64 7))⟩,
  ⟨some 75, none, false, .mv (.t 74)⟩,
  ⟨some 76, some (75, true), false, .call false (.c (.fn i_law11_wakes [] [])) []⟩,
  ⟨some 77, none, false, .pick (.t 75) (.t 76) (.c (.bool false))⟩,
  ⟨some 14, none, false, .mv (.t 77)⟩]

def f_law11_LeaseProves_r15 : List Abs.Op := [
  ⟨some 78, none, false, .mv (.t 19)⟩,
  ⟨some 79, none, false, .lenS (.t 78)⟩,
  ⟨some 80, none, false, .fadr 4 (.t 7)⟩,
  ⟨some 81, none, false, .ld false 1 (.t 80)⟩,
  ⟨some 82, none, false, .lenS (.t 81)⟩,
  ⟨some 83, none, false, .bin .neq (.t 79) (.t 82)⟩,
  ⟨some 84, none, false, .mv (.t 83)⟩,
  ⟨some 85, some (84, false), false, .mv (.t 21)⟩,
  ⟨some 86, some (84, false), false, .lenS (.t 85)⟩,
  ⟨some 87, some (84, false), false, .fadr 4 (.t 7)⟩,
  ⟨some 88, some (84, false), false, .ld false 1 (.t 87)⟩,
  ⟨some 89, some (84, false), false, .lenS (.t 88)⟩,
  ⟨some 90, some (84, false), false, .bin .neq (.t 86) (.t 89)⟩,
  ⟨some 91, none, false, .pick (.t 84) (.c (.bool true)) (.t 90)⟩]

def f_law11_LeaseProves_r16 : List Abs.Op := [
  ⟨some 14, none, false, .mv (.c (.bool false))⟩]

def f_law11_LeaseProves_r17 : List Abs.Op := [
  ⟨some 92, none, false, .mv (.t 19)⟩,
  ⟨some 93, none, false, .mv (.t 21)⟩,
  ⟨some 94, none, false, .call false (.c (.fn i_law11_back [] [])) [(.t 93)]⟩,
  ⟨some 95, none, false, .call true (.c (.fn i_law11_table [] [])) [(.t 94)]⟩,
  ⟨some 17, none, false, .mv (.t 92)⟩,
  ⟨some 18, none, false, .mv (.t 95)⟩]

def f_law11_LeaseProves_r18 : List Abs.Op := [
  ⟨some 96, none, false, .mv (.t 4)⟩,
  ⟨some 97, none, false, .cvt .i64 (.t 96)⟩,
  ⟨some 98, none, false, .mv (.t 18)⟩,
  ⟨some 99, none, false, .lenS (.t 98)⟩,
  ⟨some 100, none, false, .bin .rem (.t 97) (.t 99)⟩,
  ⟨some 23, none, false, .mv (.t 100)⟩]

def f_law11_LeaseProves_r19 : List Abs.Op := [
  ⟨some 101, none, false, .mv (.t 18)⟩,
  ⟨some 102, none, false, .mv (.t 23)⟩,
  ⟨some 103, none, false, .idxS 1 (.t 101) (.t 102)⟩,
  ⟨some 104, none, false, .ld false 1 (.t 103)⟩,
  ⟨some 105, none, false, .lenS (.t 104)⟩,
  ⟨some 106, none, false, .bin .eql (.t 105) (.c (.int .i64 0))⟩]

def f_law11_LeaseProves_r20 : List Abs.Op := [
  ⟨some 14, none, false, .mv (.c (.bool false))⟩]

def f_law11_LeaseProves_r21 : List Abs.Op := [
  ⟨some 107, none, false, .mv (.t 5)⟩,
  ⟨some 108, none, false, .cvt .i64 (.t 107)⟩,
  ⟨some 109, none, false, .mv (.t 18)⟩,
  ⟨some 110, none, false, .mv (.t 23)⟩,
  ⟨some 111, none, false, .idxS 1 (.t 109) (.t 110)⟩,
  ⟨some 112, none, false, .ld false 1 (.t 111)⟩,
  ⟨some 113, none, false, .lenS (.t 112)⟩,
  ⟨some 114, none, false, .bin .rem (.t 108) (.t 113)⟩,
  ⟨some 24, none, false, .mv (.t 114)⟩]

def f_law11_LeaseProves_r22 : List Abs.Op := [
  ⟨some 115, none, false, .mv (.t 6)⟩,
  ⟨some 116, none, false, .cvt .i64 (.t 115)⟩,
  ⟨some 117, none, false, .bin .rem (.t 116) (.c (.int .i64 3))⟩]

def f_law11_LeaseProves_r23 : List Abs.Op := [
  ⟨some 128, none, false, .bin .eql (.t 117) (.c (.int .i64 0))⟩,
  ⟨some 127, none, false, .mv (.t 128)⟩]

def f_law11_LeaseProves_r24 : List Abs.Op := [
  ⟨some 129, none, false, .mv (.t 18)⟩,
  ⟨some 130, none, false, .mv (.t 23)⟩,
  ⟨some 131, none, false, .idxS 1 (.t 129) (.t 130)⟩,
  ⟨some 132, none, false, .ld false 1 (.t 131)⟩,
  ⟨some 133, none, false, .mv (.t 24)⟩,
  ⟨some 134, none, false, .idxS 2 (.t 132) (.t 133)⟩,
  ⟨some 135, none, false, .fadr 1 (.t 134)⟩,
  ⟨some 136, none, false, .ld false 1 (.t 135)⟩,
  ⟨some 137, none, false, .mv (.t 6)⟩,
  ⟨some 138, none, false, .cvt .i64 (.t 137)⟩,
  ⟨some 139, none, false, .bin .quo (.t 138) (.c (.int .i64 3))⟩,
  ⟨some 140, none, false, .bin .add (.t 136) (.t 139)⟩,
  ⟨some 141, none, false, .idxS 2 (.t 132) (.t 133)⟩,
  ⟨some 142, none, false, .fadr 1 (.t 141)⟩,
  ⟨none, none, false, .st [] 1 (.t 142) (.t 140)⟩]

def f_law11_LeaseProves_r25 : List Abs.Op := [
  ⟨some 144, none, false, .bin .eql (.t 117) (.c (.int .i64 1))⟩,
  ⟨some 143, none, false, .mv (.t 144)⟩]

def f_law11_LeaseProves_r26 : List Abs.Op := [
  ⟨some 145, none, false, .mv (.t 18)⟩,
  ⟨some 146, none, false, .mv (.t 23)⟩,
  ⟨some 147, none, false, .idxS 1 (.t 145) (.t 146)⟩,
  ⟨some 148, none, false, .ld false 1 (.t 147)⟩,
  ⟨some 149, none, false, .mv (.t 24)⟩,
  ⟨some 150, none, false, .idxS 2 (.t 148) (.t 149)⟩,
  ⟨some 151, none, false, .fadr 0 (.t 150)⟩,
  ⟨some 152, none, false, .ld false 1 (.t 151)⟩,
  ⟨some 153, none, false, .mv (.t 6)⟩,
  ⟨some 154, none, false, .cvt .i64 (.t 153)⟩,
  ⟨some 155, none, false, .bin .quo (.t 154) (.c (.int .i64 3))⟩,
  ⟨some 156, none, false, .bin .add (.t 152) (.t 155)⟩,
  ⟨some 157, none, false, .idxS 2 (.t 148) (.t 149)⟩,
  ⟨some 158, none, false, .fadr 0 (.t 157)⟩,
  ⟨none, none, false, .st [] 1 (.t 158) (.t 156)⟩]

def f_law11_LeaseProves_r27 : List Abs.Op := [
  ⟨some 118, none, false, .mv (.t 17)⟩,
  ⟨some 119, none, false, .mv (.t 23)⟩,
  ⟨some 120, none, false, .idxS 1 (.t 118) (.t 119)⟩,
  ⟨some 121, none, false, .ld false 1 (.t 120)⟩,
  ⟨some 122, none, false, .mv (.t 6)⟩,
  ⟨some 123, none, false, .cvt .i64 (.t 122)⟩,
  ⟨some 124, none, false, .bin .rem (.t 123) (.c (.int .i64 2))⟩,
  ⟨some 125, none, false, .bin .add (.t 121) (.t 124)⟩,
  ⟨some 126, none, false, .idxS 1 (.t 118) (.t 119)⟩,
  ⟨none, none, false, .st [] 1 (.t 126) (.t 125)⟩]

def f_law11_LeaseProves_r28 : List Abs.Op := [
  ⟨some 159, none, true, .ld true 5 (.t 7)⟩,
  ⟨some 160, none, true, .call false (.c (.fn i_law11_Programme [] [])) [(.t 159)]⟩,
  ⟨some 161, none, true, .mv (.t 17)⟩,
  ⟨some 162, none, true, .call false (.c (.fn i_law11_list [] [])) [(.t 161)]⟩,
  ⟨some 163, none, true, .mv (.t 18)⟩,
  ⟨some 164, none, true, .call false (.c (.fn i_law11_back [] [])) [(.t 163)]⟩,
  ⟨some 165, none, true, .call false (.c (.fn i_law11_table [] [])) [(.t 164)]⟩,
  ⟨some 166, none, true, .call false (.c (.fn i_lease_ProveDrill [] [])) [(.t 160), (.t 162), (.t 165)]⟩,
  ⟨some 167, none, true, .mv (.t 16)⟩,
  ⟨some 168, none, true, .mv (.t 167)⟩,
  ⟨some 169, some (168, true), true, .ld true 5 (.t 7)⟩,
  ⟨some 170, some (168, true), true, .mv (.t 17)⟩,
  ⟨some 171, some (168, true), true, .mv (.t 18)⟩,
  ⟨some 172, some (168, true), true, .call false (.c (.fn i_law11_back [] [])) [(.t 171)]⟩,
  ⟨some 173, some (168, true), false, .call false (.c (.fn i_ref11_Shows [] [])) [(.t 169), (.t 170), (.t 172)]⟩,
  ⟨some 174, none, false, .pick (.t 168) (.t 173) (.c (.bool false))⟩,
  ⟨some 175, none, false, .eqv false [none] false (.t 166) (.t 174)⟩,
  ⟨some 176, none, false, .mv (.t 175)⟩,
  ⟨some 177, some (176, true), false, .call false (.c (.fn i_law11_wakes [] [])) []⟩,
  ⟨some 178, none, false, .pick (.t 176) (.t 177) (.c (.bool false))⟩,
  ⟨some 14, none, false, .mv (.t 178)⟩]

def a_law11_LeaseProves : Ann := ⟨[(27, [14]), (24, [7, 16, 17, 18]), (26, [7, 16, 17, 18]), (22, [7, 16, 17, 18]), (25, [6, 7, 16, 17, 18, 23, 24, 143]), (23, [6, 7, 16, 17, 18, 23, 24, 117, 127]), (21, [6, 7, 16, 17, 18, 23, 24, 117]), (20, [6, 7, 16, 17, 18, 23, 24]), (19, [14]), (18, [5, 6, 7, 16, 17, 18, 23, 106]), (17, [5, 6, 7, 16, 17, 18, 23]), (16, [4, 5, 6, 7, 16, 17, 18]), (15, [14]), (14, [4, 5, 6, 7, 16, 19, 21, 91]), (13, [14]), (12, [4, 5, 6, 7, 16, 19, 21, 22, 72]), (11, [4, 5, 6, 7, 16, 19, 21, 22]), (10, [4, 5, 6, 7, 16, 17, 18, 62]), (9, [3, 4, 5, 6, 7, 16, 17, 18]), (8, [1, 2, 3, 4, 5, 6, 7, 16]), (5, [1, 2, 3, 4, 5, 6, 7, 15]), (7, [14]), (6, [1, 2, 3, 4, 5, 6, 7, 15, 51]), (4, [1, 2, 3, 4, 5, 6, 7, 15, 43]), (3, [1, 2, 3, 4, 5, 6, 7, 15]), (2, [14]), (1, [1, 2, 3, 4, 5, 6, 7, 38]), (0, [1, 2, 3, 4, 5, 6, 7])], [(0, [1, 2, 3, 4, 5, 6, 7, 15])], [], [], [], [], [9001, 9003, 16003], [(27, [17])], [], []⟩
def f_law11_LeaseProves : Abs.Fn := ⟨7, [.t 14],
  (.seq (.reg [1, 2, 3, 4, 5, 6, 7] f_law11_LeaseProves_r0) (.seq (.seq (.reg [1, 2, 3, 4, 5, 6, 7, 38] f_law11_LeaseProves_r1) (.ite (.t 38) (.seq (.reg [14] f_law11_LeaseProves_r2) .ret) .nop)) (.seq (.seq (.reg [1, 2, 3, 4, 5, 6, 7, 15] f_law11_LeaseProves_r3) (.blk 0 (.loop [1, 2, 3, 4, 5, 6, 7, 15] false f_law11_LeaseProves_l8))) (.seq (.reg [1, 2, 3, 4, 5, 6, 7, 16] f_law11_LeaseProves_r9) (.seq (.reg [3, 4, 5, 6, 7, 16, 17, 18] f_law11_LeaseProves_r10) (.seq (.seq (.reg [4, 5, 6, 7, 16, 17, 18, 62] f_law11_LeaseProves_r11) (.ite (.t 62) (.seq (.reg [4, 5, 6, 7, 16, 19, 21, 22] f_law11_LeaseProves_r12) (.seq (.seq (.reg [4, 5, 6, 7, 16, 19, 21, 22, 72] f_law11_LeaseProves_r13) (.ite (.t 72) (.seq (.reg [14] f_law11_LeaseProves_r14) .ret) .nop)) (.seq (.seq (.reg [4, 5, 6, 7, 16, 19, 21, 91] f_law11_LeaseProves_r15) (.ite (.t 91) (.seq (.reg [14] f_law11_LeaseProves_r16) .ret) .nop)) (.seq (.reg [4, 5, 6, 7, 16, 17, 18] f_law11_LeaseProves_r17) (.seq (.reg [5, 6, 7, 16, 17, 18, 23] f_law11_LeaseProves_r18) (.seq (.seq (.reg [5, 6, 7, 16, 17, 18, 23, 106] f_law11_LeaseProves_r19) (.ite (.t 106) (.seq (.reg [14] f_law11_LeaseProves_r20) .ret) .nop)) (.seq (.reg [6, 7, 16, 17, 18, 23, 24] f_law11_LeaseProves_r21) (.seq (.reg [6, 7, 16, 17, 18, 23, 24, 117] f_law11_LeaseProves_r22) (.blk 2 (.seq (.reg [6, 7, 16, 17, 18, 23, 24, 117, 127] f_law11_LeaseProves_r23) (.ite (.t 127) (.reg [7, 16, 17, 18] f_law11_LeaseProves_r24) (.seq (.reg [6, 7, 16, 17, 18, 23, 24, 143] f_law11_LeaseProves_r25) (.ite (.t 143) (.reg [7, 16, 17, 18] f_law11_LeaseProves_r26) (.reg [7, 16, 17, 18] f_law11_LeaseProves_r27)))))))))))))) .nop)) (.seq (.seq (.frz [17]) (.reg [14] f_law11_LeaseProves_r28)) .ret)))))))⟩

theorem e_law11_LeaseProves_r0 : type_of% f_law11_LeaseProves_r0.eq_1 := by_rfl f_law11_LeaseProves_r0.eq_1
theorem e_law11_LeaseProves_r1 : type_of% f_law11_LeaseProves_r1.eq_1 := by_rfl f_law11_LeaseProves_r1.eq_1
theorem e_law11_LeaseProves_r2 : type_of% f_law11_LeaseProves_r2.eq_1 := by_rfl f_law11_LeaseProves_r2.eq_1
theorem e_law11_LeaseProves_r3 : type_of% f_law11_LeaseProves_r3.eq_1 := by_rfl f_law11_LeaseProves_r3.eq_1
theorem e_law11_LeaseProves_r4 : type_of% f_law11_LeaseProves_r4.eq_1 := by_rfl f_law11_LeaseProves_r4.eq_1
theorem e_law11_LeaseProves_r5 : type_of% f_law11_LeaseProves_r5.eq_1 := by_rfl f_law11_LeaseProves_r5.eq_1
theorem e_law11_LeaseProves_r6 : type_of% f_law11_LeaseProves_r6.eq_1 := by_rfl f_law11_LeaseProves_r6.eq_1
theorem e_law11_LeaseProves_r7 : type_of% f_law11_LeaseProves_r7.eq_1 := by_rfl f_law11_LeaseProves_r7.eq_1
theorem e_law11_LeaseProves_l8 : type_of% f_law11_LeaseProves_l8.eq_1 := by_rfl f_law11_LeaseProves_l8.eq_1
theorem e_law11_LeaseProves_r9 : type_of% f_law11_LeaseProves_r9.eq_1 := by_rfl f_law11_LeaseProves_r9.eq_1
theorem e_law11_LeaseProves_r10 : type_of% f_law11_LeaseProves_r10.eq_1 := by_rfl f_law11_LeaseProves_r10.eq_1
theorem e_law11_LeaseProves_r11 : type_of% f_law11_LeaseProves_r11.eq_1 := by_rfl f_law11_LeaseProves_r11.eq_1
theorem e_law11_LeaseProves_r12 : type_of% f_law11_LeaseProves_r12.eq_1 := by_rfl f_law11_LeaseProves_r12.eq_1
theorem e_law11_LeaseProves_r13 : type_of% f_law11_LeaseProves_r13.eq_1 := by_rfl f_law11_LeaseProves_r13.eq_1
theorem e_law11_LeaseProves_r14 : type_of% f_law11_LeaseProves_r14.eq_1 := by_rfl f_law11_LeaseProves_r14.eq_1
theorem e_law11_LeaseProves_r15 : type_of% f_law11_LeaseProves_r15.eq_1 := by_rfl f_law11_LeaseProves_r15.eq_1
theorem e_law11_LeaseProves_r16 : type_of% f_law11_LeaseProves_r16.eq_1 := by_rfl f_law11_LeaseProves_r16.eq_1
theorem e_law11_LeaseProves_r17 : type_of% f_law11_LeaseProves_r17.eq_1 := by_rfl f_law11_LeaseProves_r17.eq_1
theorem e_law11_LeaseProves_r18 : type_of% f_law11_LeaseProves_r18.eq_1 := by_rfl f_law11_LeaseProves_r18.eq_1
theorem e_law11_LeaseProves_r19 : type_of% f_law11_LeaseProves_r19.eq_1 := by_rfl f_law11_LeaseProves_r19.eq_1
theorem e_law11_LeaseProves_r20 : type_of% f_law11_LeaseProves_r20.eq_1 := by_rfl f_law11_LeaseProves_r20.eq_1
theorem e_law11_LeaseProves_r21 : type_of% f_law11_LeaseProves_r21.eq_1 := by_rfl f_law11_LeaseProves_r21.eq_1
theorem e_law11_LeaseProves_r22 : type_of% f_law11_LeaseProves_r22.eq_1 := by_rfl f_law11_LeaseProves_r22.eq_1
theorem e_law11_LeaseProves_r23 : type_of% f_law11_LeaseProves_r23.eq_1 := by_rfl f_law11_LeaseProves_r23.eq_1
theorem e_law11_LeaseProves_r24 : type_of% f_law11_LeaseProves_r24.eq_1 := by_rfl f_law11_LeaseProves_r24.eq_1
theorem e_law11_LeaseProves_r25 : type_of% f_law11_LeaseProves_r25.eq_1 := by_rfl f_law11_LeaseProves_r25.eq_1
theorem e_law11_LeaseProves_r26 : type_of% f_law11_LeaseProves_r26.eq_1 := by_rfl f_law11_LeaseProves_r26.eq_1
theorem e_law11_LeaseProves_r27 : type_of% f_law11_LeaseProves_r27.eq_1 := by_rfl f_law11_LeaseProves_r27.eq_1
theorem e_law11_LeaseProves_r28 : type_of% f_law11_LeaseProves_r28.eq_1 := by_rfl f_law11_LeaseProves_r28.eq_1
theorem e_law11_LeaseProves : type_of% f_law11_LeaseProves.eq_1 := by_rfl f_law11_LeaseProves.eq_1
theorem ok_law11_LeaseProves : fnC Tryz.prog a_law11_LeaseProves Tryz.f6 = some f_law11_LeaseProves := by kernel_rfl

/-! 7 fumarole/fumarolelaw11.LeaseOutlooks -/
def f_law11_LeaseOutlooks_r0 : List Abs.Op := [
  ⟨some 2, none, false, .boxi (.t 0)⟩,
  ⟨some 4, none, false, .mv (.c (.bool false))⟩]

def f_law11_LeaseOutlooks_r1 : List Abs.Op := [
  ⟨some 14, none, false, .fadr 4 (.t 2)⟩,
  ⟨some 15, none, false, .ld false 1 (.t 14)⟩,
  ⟨some 16, none, false, .lenS (.t 15)⟩,
  ⟨some 17, none, false, .bin .gtr (.t 16) (.c (.int .i64 12))⟩,
  ⟨some 18, none, false, .mv (.t 17)⟩,
  ⟨some 19, some (18, false), false, .mv (.t 1)⟩,
  ⟨some 20, some (18, false), false, .lenS (.t 19)⟩,
  ⟨some 21, some (18, false), false, .bin .gtr (.t 20) (.c (.int .i64 12))⟩,
  ⟨some 22, none, false, .pick (.t 18) (.c (.bool true)) (.t 21)⟩]

def f_law11_LeaseOutlooks_r2 : List Abs.Op := [
  ⟨some 23, none, false, .call false (.c (.fn i_law11_wakes [] [])) []⟩,
  ⟨some 4, none, false, .mv (.t 23)⟩]

def f_law11_LeaseOutlooks_r3 : List Abs.Op := [
  ⟨some 25, none, false, .ld true 5 (.t 2)⟩,
  ⟨some 26, none, false, .call false (.c (.fn i_law11_Programme [] [])) [(.t 25)]⟩,
  ⟨some 27, none, false, .mv (.t 1)⟩,
  ⟨some 28, none, false, .call false (.c (.fn i_law11_list [] [])) [(.t 27)]⟩,
  ⟨some 29, none, false, .call false (.c (.fn i_lease_Outlook [] [])) [(.t 26), (.t 28)]⟩,
  ⟨some 24, none, false, .mv (.t 29)⟩,
  ⟨some 30, none, false, .ext (.t 24) 0⟩,
  ⟨some 31, none, false, .ext (.t 24) 1⟩,
  ⟨some 32, none, false, .ext (.t 24) 2⟩,
  ⟨some 5, none, false, .mv (.t 30)⟩,
  ⟨some 6, none, false, .mv (.t 31)⟩,
  ⟨some 7, none, false, .mv (.t 32)⟩]

def f_law11_LeaseOutlooks_r4 : List Abs.Op := [
  ⟨some 34, none, false, .ld true 5 (.t 2)⟩,
  ⟨some 35, none, false, .call false (.c (.fn i_law11_Programme [] [])) [(.t 34)]⟩,
  ⟨some 36, none, false, .call false (.c (.fn i_lease_Short [] [])) [(.t 35)]⟩,
  ⟨some 33, none, false, .mv (.t 36)⟩,
  ⟨some 37, none, false, .ext (.t 33) 0⟩,
  ⟨some 38, none, false, .ext (.t 33) 1⟩,
  ⟨some 8, none, false, .mv (.t 37)⟩,
  ⟨some 9, none, false, .mv (.t 38)⟩]

def f_law11_LeaseOutlooks_r5 : List Abs.Op := [
  ⟨some 39, none, false, .ld true 5 (.t 2)⟩,
  ⟨some 40, none, false, .call false (.c (.fn i_ref11_RightProgramme [] [])) [(.t 39)]⟩,
  ⟨some 41, none, false, .un .not (.t 40)⟩]

def f_law11_LeaseOutlooks_r6 : List Abs.Op := [
  ⟨some 42, none, false, .ld true 5 (.t 2)⟩,
  ⟨some 43, none, false, .call false (.c (.fn i_law11_Programme [] [])) [(.t 42)]⟩,
  ⟨some 44, none, false, .call false (.c (.fn i_lease_CheckProgramme [] [])) [(.t 43)]⟩,
  ⟨some 45, none, false, .bin .eql (.t 44) (.c (.int .i64 1))⟩,
  ⟨some 46, none, false, .mv (.t 45)⟩,
  ⟨some 47, some (46, true), false, .mv (.t 7)⟩,
  ⟨some 48, some (46, true), false, .bin .eql (.t 47) (.c (.int .i64 1))⟩,
  ⟨some 49, none, false, .pick (.t 46) (.t 48) (.c (.bool false))⟩,
  ⟨some 50, none, false, .mv (.t 49)⟩,
  ⟨some 51, some (50, true), false, .mv (.t 9)⟩,
  ⟨some 52, some (50, true), false, .bin .eql (.t 51) (.c (.int .i64 1))⟩,
  ⟨some 53, none, false, .pick (.t 50) (.t 52) (.c (.bool false))⟩,
  ⟨some 54, none, false, .mv (.t 53)⟩,
  ⟨some 55, some (54, true), false, .mv (.t 5)⟩,
  ⟨some 56, some (54, true), false, .lenS (.t 55)⟩,
  ⟨some 57, some (54, true), false, .bin .eql (.t 56) (.c (.int .i64 0))⟩,
  ⟨some 58, none, false, .pick (.t 54) (.t 57) (.c (.bool false))⟩,
  ⟨some 59, none, false, .mv (.t 58)⟩,
  ⟨some 60, some (59, true), false, .mv (.t 6)⟩,
  ⟨some 61, some (59, true), false, .bin .eql (.t 60) (.c (.int .i64 0))⟩,
  ⟨some 62, none, false, .pick (.t 59) (.t 61) (.c (.bool false))⟩,
  ⟨some 63, none, false, .mv (.t 62)⟩,
  ⟨some 64, some (63, true), false, .mv (.t 8)⟩,
  ⟨some 65, some (63, true), false, .bin .eql (.t 64) (.c (.int .i64 0))⟩,
  ⟨some 66, none, false, .pick (.t 63) (.t 65) (.c (.bool false))⟩,
  ⟨some 67, none, false, .mv (.t 66)⟩,
  ⟨some 68, some (67, true), false, .call false (.c (.fn i_law11_wakes [] [])) []⟩,
  ⟨some 69, none, false, .pick (.t 67) (.t 68) (.c (.bool false))⟩,
  ⟨some 4, none, false, .mv (.t 69)⟩]

def f_law11_LeaseOutlooks_r7 : List Abs.Op := [
  ⟨some 70, none, false, .ld true 5 (.t 2)⟩,
  ⟨some 71, none, false, .call false (.c (.fn i_ref11_Short [] [])) [(.t 70)]⟩,
  ⟨some 10, none, false, .mv (.t 71)⟩]

def f_law11_LeaseOutlooks_r8 : List Abs.Op := [
  ⟨some 72, none, false, .mv (.t 10)⟩,
  ⟨some 73, none, false, .bin .lss (.t 72) (.c (.int .i64 0))⟩]

def f_law11_LeaseOutlooks_r9 : List Abs.Op := [
  ⟨some 74, none, false, .mv (.t 9)⟩,
  ⟨some 75, none, false, .bin .neq (.t 74) (.c (.int .i64 7))⟩,
  ⟨some 76, none, false, .mv (.t 75)⟩,
  ⟨some 77, some (76, false), false, .mv (.t 8)⟩,
  ⟨some 78, some (76, false), false, .bin .neq (.t 77) (.c (.int .i64 0))⟩,
  ⟨some 79, none, false, .pick (.t 76) (.c (.bool true)) (.t 78)⟩]

def f_law11_LeaseOutlooks_r10 : List Abs.Op := [
  ⟨some 4, none, false, .mv (.c (.bool false))⟩]

def f_law11_LeaseOutlooks_r11 : List Abs.Op := [
  ⟨some 80, none, false, .mv (.t 9)⟩,
  ⟨some 81, none, false, .bin .neq (.t 80) (.c (.int .i64 0))⟩,
  ⟨some 82, none, false, .mv (.t 81)⟩,
  ⟨some 83, some (82, false), false, .mv (.t 8)⟩,
  ⟨some 84, some (82, false), false, .mv (.t 10)⟩,
  ⟨some 85, some (82, false), false, .bin .neq (.t 83) (.t 84)⟩,
  ⟨some 86, none, false, .pick (.t 82) (.c (.bool true)) (.t 85)⟩]

def f_law11_LeaseOutlooks_r12 : List Abs.Op := [
  ⟨some 4, none, false, .mv (.c (.bool false))⟩]

def f_law11_LeaseOutlooks_r13 : List Abs.Op := [
  ⟨some 87, none, false, .ld true 5 (.t 2)⟩,
  ⟨some 88, none, false, .call false (.c (.fn i_law11_Programme [] [])) [(.t 87)]⟩,
  ⟨some 89, none, false, .call false (.c (.fn i_lease_CheckProgramme [] [])) [(.t 88)]⟩,
  ⟨some 90, none, false, .bin .neq (.t 89) (.c (.int .i64 0))⟩]

def f_law11_LeaseOutlooks_r14 : List Abs.Op := [
  ⟨some 4, none, false, .mv (.c (.bool false))⟩]

def f_law11_LeaseOutlooks_r15 : List Abs.Op := [
  ⟨some 91, none, false, .ld true 5 (.t 2)⟩,
  ⟨some 92, none, false, .mv (.t 1)⟩,
  ⟨some 93, none, false, .call false (.c (.fn i_ref11_Numbers [] [])) [(.t 91), (.t 92)]⟩,
  ⟨some 94, none, false, .un .not (.t 93)⟩]

def f_law11_LeaseOutlooks_r16 : List Abs.Op := [
  ⟨some 95, none, false, .mv (.t 7)⟩,
  ⟨some 96, none, false, .bin .eql (.t 95) (.c (.int .i64 2))⟩,
  ⟨some 97, none, false, .mv (.t 96)⟩,
  ⟨some 98, some (97, true), false, .mv (.t 5)⟩,
  ⟨some 99, some (97, true), false, .lenS (.t 98)⟩,
  ⟨some 100, some (97, true), false, .bin .eql (.t 99) (.c (.int .i64 0))⟩,
  ⟨some 101, none, false, .pick (.t 97) (.t 100) (.c (.bool false))⟩,
  ⟨some 102, none, false, .mv (.t 101)⟩,
  ⟨some 103, some (102, true), false, .mv (.t 6)⟩,
  ⟨some 104, some (102, true), false, .bin .eql (.t 103) (.c (.int .i64 0))⟩,
  ⟨some 105, none, false, .pick (.t 102) (.t 104) (.c (.bool false))⟩,
  ⟨some 106, none, false, .mv (.t 105)⟩,
  ⟨some 107, some (106, true), false, .call false (.c (.fn i_law11_wakes [] [])) []⟩,
  ⟨some 108, none, false, .pick (.t 106) (.t 107) (.c (.bool false))⟩,
  ⟨some 4, none, false, .mv (.t 108)⟩]

def f_law11_LeaseOutlooks_r17 : List Abs.Op := [
  ⟨some 110, none, false, .ld true 5 (.t 2)⟩,
  ⟨some 111, none, false, .mv (.t 1)⟩,
  ⟨some 112, none, false, .call false (.c (.fn i_ref11_Outlook [] [])) [(.t 110), (.t 111)]⟩,
  ⟨some 109, none, false, .mv (.t 112)⟩,
  ⟨some 113, none, false, .ext (.t 109) 0⟩,
  ⟨some 114, none, false, .ext (.t 109) 1⟩,
  ⟨some 115, none, false, .ext (.t 109) 2⟩,
  ⟨some 11, none, false, .mv (.t 113)⟩,
  ⟨some 12, none, false, .mv (.t 114)⟩,
  ⟨some 13, none, false, .mv (.t 115)⟩]

def f_law11_LeaseOutlooks_r18 : List Abs.Op := [
  ⟨some 116, none, false, .mv (.t 13)⟩,
  ⟨some 117, none, false, .un .not (.t 116)⟩]

def f_law11_LeaseOutlooks_r19 : List Abs.Op := [
  ⟨some 118, none, false, .mv (.t 7)⟩,
  ⟨some 119, none, false, .bin .eql (.t 118) (.c (.int .i64 9))⟩,
  ⟨some 120, none, false, .mv (.t 119)⟩,
  ⟨some 121, some (120, true), false, .mv (.t 5)⟩,
  ⟨some 122, some (120, true), false, .lenS (.t 121)⟩,
  ⟨some 123, some (120, true), false, .bin .eql (.t 122) (.c (.int .i64 0))⟩,
  ⟨some 124, none, false, .pick (.t 120) (.t 123) (.c (.bool false))⟩,
  ⟨some 125, none, false, .mv (.t 124)⟩,
  ⟨some 126, some (125, true), false, .mv (.t 6)⟩,
  ⟨some 127, some (125, true), false, .bin .eql (.t 126) (.c (.int .i64 0))⟩,
  ⟨some 128, none, false, .pick (.t 125) (.t 127) (.c (.bool false))⟩,
  ⟨some 129, none, false, .mv (.t 128)⟩,
  ⟨some 130, some (129, true), false, .call false (.c (.fn i_law11_wakes [] [])) []⟩,
  ⟨some 131, none, false, .pick (.t 129) (.t 130) (.c (.bool false))⟩,
  ⟨some 4, none, false, .mv (.t 131)⟩]

def f_law11_LeaseOutlooks_r20 : List Abs.Op := [
  ⟨some 132, none, false, .mv (.t 7)⟩,
  ⟨some 133, none, false, .bin .eql (.t 132) (.c (.int .i64 0))⟩,
  ⟨some 134, none, false, .mv (.t 133)⟩,
  ⟨some 135, some (134, true), false, .mv (.t 5)⟩,
  ⟨some 136, some (134, true), false, .mv (.t 11)⟩,
  ⟨some 137, some (134, true), false, .call false (.c (.fn i_law11_ints [] [])) [(.t 135), (.t 136)]⟩,
  ⟨some 138, none, false, .pick (.t 134) (.t 137) (.c (.bool false))⟩,
  ⟨some 139, none, false, .mv (.t 138)⟩,
  ⟨some 140, some (139, true), false, .mv (.t 6)⟩,
  ⟨some 141, some (139, true), false, .mv (.t 12)⟩,
  ⟨some 142, some (139, true), false, .bin .eql (.t 140) (.t 141)⟩,
  ⟨some 143, none, false, .pick (.t 139) (.t 142) (.c (.bool false))⟩,
  ⟨some 144, none, false, .mv (.t 143)⟩,
  ⟨some 145, some (144, true), false, .call false (.c (.fn i_law11_wakes [] [])) []⟩,
  ⟨some 146, none, false, .pick (.t 144) (.t 145) (.c (.bool false))⟩,
  ⟨some 4, none, false, .mv (.t 146)⟩]

def a_law11_LeaseOutlooks : Ann := ⟨[(20, [4]), (19, [4]), (18, [5, 6, 7, 11, 12, 117]), (17, [5, 6, 7, 11, 12, 13]), (16, [4]), (15, [1, 2, 5, 6, 7, 94]), (14, [4]), (13, [1, 2, 5, 6, 7, 90]), (10, [4]), (9, [1, 2, 5, 6, 7, 79]), (12, [4]), (11, [1, 2, 5, 6, 7, 86]), (8, [1, 2, 5, 6, 7, 8, 9, 10, 73]), (7, [1, 2, 5, 6, 7, 8, 9, 10]), (6, [4]), (5, [1, 2, 5, 6, 7, 8, 9, 41]), (4, [1, 2, 5, 6, 7, 8, 9]), (3, [1, 2, 5, 6, 7]), (2, [4]), (1, [1, 2, 22]), (0, [1, 2])], [], [], [], [], [], [], [], [], []⟩
def f_law11_LeaseOutlooks : Abs.Fn := ⟨2, [.t 4],
  (.seq (.reg [1, 2] f_law11_LeaseOutlooks_r0) (.seq (.seq (.reg [1, 2, 22] f_law11_LeaseOutlooks_r1) (.ite (.t 22) (.seq (.reg [4] f_law11_LeaseOutlooks_r2) .ret) .nop)) (.seq (.reg [1, 2, 5, 6, 7] f_law11_LeaseOutlooks_r3) (.seq (.reg [1, 2, 5, 6, 7, 8, 9] f_law11_LeaseOutlooks_r4) (.seq (.seq (.reg [1, 2, 5, 6, 7, 8, 9, 41] f_law11_LeaseOutlooks_r5) (.ite (.t 41) (.seq (.reg [4] f_law11_LeaseOutlooks_r6) .ret) .nop)) (.seq (.seq (.reg [1, 2, 5, 6, 7, 8, 9, 10] f_law11_LeaseOutlooks_r7) (.seq (.reg [1, 2, 5, 6, 7, 8, 9, 10, 73] f_law11_LeaseOutlooks_r8) (.ite (.t 73) (.seq (.reg [1, 2, 5, 6, 7, 79] f_law11_LeaseOutlooks_r9) (.ite (.t 79) (.seq (.reg [4] f_law11_LeaseOutlooks_r10) .ret) .nop)) (.seq (.reg [1, 2, 5, 6, 7, 86] f_law11_LeaseOutlooks_r11) (.ite (.t 86) (.seq (.reg [4] f_law11_LeaseOutlooks_r12) .ret) .nop))))) (.seq (.seq (.reg [1, 2, 5, 6, 7, 90] f_law11_LeaseOutlooks_r13) (.ite (.t 90) (.seq (.reg [4] f_law11_LeaseOutlooks_r14) .ret) .nop)) (.seq (.seq (.reg [1, 2, 5, 6, 7, 94] f_law11_LeaseOutlooks_r15) (.ite (.t 94) (.seq (.reg [4] f_law11_LeaseOutlooks_r16) .ret) .nop)) (.seq (.reg [5, 6, 7, 11, 12, 13] f_law11_LeaseOutlooks_r17) (.seq (.seq (.reg [5, 6, 7, 11, 12, 117] f_law11_LeaseOutlooks_r18) (.ite (.t 117) (.seq (.reg [4] f_law11_LeaseOutlooks_r19) .ret) .nop)) (.seq (.reg [4] f_law11_LeaseOutlooks_r20) .ret)))))))))))⟩

theorem e_law11_LeaseOutlooks_r0 : type_of% f_law11_LeaseOutlooks_r0.eq_1 := by_rfl f_law11_LeaseOutlooks_r0.eq_1
theorem e_law11_LeaseOutlooks_r1 : type_of% f_law11_LeaseOutlooks_r1.eq_1 := by_rfl f_law11_LeaseOutlooks_r1.eq_1
theorem e_law11_LeaseOutlooks_r2 : type_of% f_law11_LeaseOutlooks_r2.eq_1 := by_rfl f_law11_LeaseOutlooks_r2.eq_1
theorem e_law11_LeaseOutlooks_r3 : type_of% f_law11_LeaseOutlooks_r3.eq_1 := by_rfl f_law11_LeaseOutlooks_r3.eq_1
theorem e_law11_LeaseOutlooks_r4 : type_of% f_law11_LeaseOutlooks_r4.eq_1 := by_rfl f_law11_LeaseOutlooks_r4.eq_1
theorem e_law11_LeaseOutlooks_r5 : type_of% f_law11_LeaseOutlooks_r5.eq_1 := by_rfl f_law11_LeaseOutlooks_r5.eq_1
theorem e_law11_LeaseOutlooks_r6 : type_of% f_law11_LeaseOutlooks_r6.eq_1 := by_rfl f_law11_LeaseOutlooks_r6.eq_1
theorem e_law11_LeaseOutlooks_r7 : type_of% f_law11_LeaseOutlooks_r7.eq_1 := by_rfl f_law11_LeaseOutlooks_r7.eq_1
theorem e_law11_LeaseOutlooks_r8 : type_of% f_law11_LeaseOutlooks_r8.eq_1 := by_rfl f_law11_LeaseOutlooks_r8.eq_1
theorem e_law11_LeaseOutlooks_r9 : type_of% f_law11_LeaseOutlooks_r9.eq_1 := by_rfl f_law11_LeaseOutlooks_r9.eq_1
theorem e_law11_LeaseOutlooks_r10 : type_of% f_law11_LeaseOutlooks_r10.eq_1 := by_rfl f_law11_LeaseOutlooks_r10.eq_1
theorem e_law11_LeaseOutlooks_r11 : type_of% f_law11_LeaseOutlooks_r11.eq_1 := by_rfl f_law11_LeaseOutlooks_r11.eq_1
theorem e_law11_LeaseOutlooks_r12 : type_of% f_law11_LeaseOutlooks_r12.eq_1 := by_rfl f_law11_LeaseOutlooks_r12.eq_1
theorem e_law11_LeaseOutlooks_r13 : type_of% f_law11_LeaseOutlooks_r13.eq_1 := by_rfl f_law11_LeaseOutlooks_r13.eq_1
theorem e_law11_LeaseOutlooks_r14 : type_of% f_law11_LeaseOutlooks_r14.eq_1 := by_rfl f_law11_LeaseOutlooks_r14.eq_1
theorem e_law11_LeaseOutlooks_r15 : type_of% f_law11_LeaseOutlooks_r15.eq_1 := by_rfl f_law11_LeaseOutlooks_r15.eq_1
theorem e_law11_LeaseOutlooks_r16 : type_of% f_law11_LeaseOutlooks_r16.eq_1 := by_rfl f_law11_LeaseOutlooks_r16.eq_1
theorem e_law11_LeaseOutlooks_r17 : type_of% f_law11_LeaseOutlooks_r17.eq_1 := by_rfl f_law11_LeaseOutlooks_r17.eq_1
theorem e_law11_LeaseOutlooks_r18 : type_of% f_law11_LeaseOutlooks_r18.eq_1 := by_rfl f_law11_LeaseOutlooks_r18.eq_1
theorem e_law11_LeaseOutlooks_r19 : type_of% f_law11_LeaseOutlooks_r19.eq_1 := by_rfl f_law11_LeaseOutlooks_r19.eq_1
theorem e_law11_LeaseOutlooks_r20 : type_of% f_law11_LeaseOutlooks_r20.eq_1 := by_rfl f_law11_LeaseOutlooks_r20.eq_1
theorem e_law11_LeaseOutlooks : type_of% f_law11_LeaseOutlooks.eq_1 := by_rfl f_law11_LeaseOutlooks.eq_1
theorem ok_law11_LeaseOutlooks : fnC Tryz.prog a_law11_LeaseOutlooks Tryz.f7 = some f_law11_LeaseOutlooks := by kernel_rfl

/-! 8 fumarole/fumarolelaw11.LeaseCheapest -/
def f_law11_LeaseCheapest_r0 : List Abs.Op := [
  ⟨some 4, none, false, .boxi (.t 0)⟩,
  ⟨some 8, none, false, .mv (.c (.bool false))⟩]

def f_law11_LeaseCheapest_r1 : List Abs.Op := [
  ⟨some 24, none, false, .mv (.t 1)⟩,
  ⟨some 25, none, false, .lenS (.t 24)⟩,
  ⟨some 26, none, false, .bin .gtr (.t 25) (.c (.int .i64 12))⟩,
  ⟨some 27, none, false, .mv (.t 26)⟩,
  ⟨some 28, some (27, false), false, .mv (.t 2)⟩,
  ⟨some 29, some (27, false), false, .lenS (.t 28)⟩,
  ⟨some 30, some (27, false), false, .bin .gtr (.t 29) (.c (.int .i64 12))⟩,
  ⟨some 31, none, false, .pick (.t 27) (.c (.bool true)) (.t 30)⟩,
  ⟨some 32, none, false, .mv (.t 31)⟩,
  ⟨some 33, some (32, false), false, .mv (.t 3)⟩,
  ⟨some 34, some (32, false), false, .lenS (.t 33)⟩,
  ⟨some 35, some (32, false), false, .bin .gtr (.t 34) (.c (.int .i64 12))⟩,
  ⟨some 36, none, false, .pick (.t 32) (.c (.bool true)) (.t 35)⟩,
  ⟨some 37, none, false, .mv (.t 36)⟩,
  ⟨some 38, some (37, false), false, .ld true 5 (.t 4)⟩,
  ⟨some 39, some (37, false), false, .call false (.c (.fn i_ref11_RightProgramme [] [])) [(.t 38)]⟩,
  ⟨some 40, some (37, false), false, .un .not (.t 39)⟩,
  ⟨some 41, none, false, .pick (.t 37) (.c (.bool true)) (.t 40)⟩]

def f_law11_LeaseCheapest_r2 : List Abs.Op := [
  ⟨some 42, none, false, .call false (.c (.fn i_law11_wakes [] [])) []⟩,
  ⟨some 8, none, false, .mv (.t 42)⟩]

def f_law11_LeaseCheapest_r3 : List Abs.Op := [
  ⟨some 9, none, false, .mv (.c (.int .i64 0))⟩]

def f_law11_LeaseCheapest_r4 : List Abs.Op := [
  ⟨some 43, none, false, .mv (.t 9)⟩,
  ⟨some 44, none, false, .mv (.t 3)⟩,
  ⟨some 45, none, false, .lenS (.t 44)⟩,
  ⟨some 46, none, false, .bin .lss (.t 43) (.t 45)⟩]

def f_law11_LeaseCheapest_r5 : List Abs.Op := [
  ⟨some 49, none, false, .mv (.t 3)⟩,
  ⟨some 50, none, false, .mv (.t 9)⟩,
  ⟨some 51, none, false, .idxS 1 (.t 49) (.t 50)⟩,
  ⟨some 52, none, false, .ld false 1 (.t 51)⟩,
  ⟨some 53, none, false, .lenS (.t 52)⟩,
  ⟨some 54, none, false, .bin .gtr (.t 53) (.c (.int .i64 60))⟩]

def f_law11_LeaseCheapest_r6 : List Abs.Op := [
  ⟨some 55, none, false, .call false (.c (.fn i_law11_wakes [] [])) []⟩,
  ⟨some 8, none, false, .mv (.t 55)⟩]

def f_law11_LeaseCheapest_r7 : List Abs.Op := [
  ⟨some 47, none, false, .mv (.t 9)⟩,
  ⟨some 48, none, false, .bin .add (.t 47) (.c (.int .i64 1))⟩,
  ⟨some 9, none, false, .mv (.t 48)⟩]

def f_law11_LeaseCheapest_l8 : Abs.Cmd :=
  (.seq (.seq (.reg [1, 2, 3, 4, 9, 46] f_law11_LeaseCheapest_r4) (.ite (.t 46) .nop (.exit 0))) (.seq (.blk 1 (.seq (.reg [1, 2, 3, 4, 9, 54] f_law11_LeaseCheapest_r5) (.ite (.t 54) (.seq (.reg [8] f_law11_LeaseCheapest_r6) .ret) .nop))) (.reg [1, 2, 3, 4, 9] f_law11_LeaseCheapest_r7)))

def f_law11_LeaseCheapest_r9 : List Abs.Op := [
  ⟨some 56, none, false, .ld true 5 (.t 4)⟩,
  ⟨some 57, none, false, .call false (.c (.fn i_law11_Programme [] [])) [(.t 56)]⟩,
  ⟨some 10, none, false, .alcv [] [(.int .i64 0), (.int .i64 0), (.int .i64 0), (.int .i64 0), .nils]⟩,
  ⟨none, none, false, .stv 10 [] 5 10 (.t 57)⟩]

def f_law11_LeaseCheapest_r10 : List Abs.Op := [
  ⟨some 59, none, false, .ldv 10 true 5 10⟩,
  ⟨some 60, none, false, .call false (.c (.fn i_lease_Drill [] [])) [(.t 59)]⟩,
  ⟨some 58, none, false, .mv (.t 60)⟩,
  ⟨some 61, none, false, .ext (.t 58) 0⟩,
  ⟨some 62, none, false, .ext (.t 58) 1⟩,
  ⟨some 63, none, false, .ext (.t 58) 2⟩,
  ⟨some 64, none, false, .ext (.t 58) 3⟩,
  ⟨some 11, none, false, .mv (.t 61)⟩,
  ⟨some 12, none, false, .mv (.t 62)⟩,
  ⟨some 13, none, false, .mv (.t 63)⟩,
  ⟨some 14, none, false, .mv (.t 64)⟩]

def f_law11_LeaseCheapest_r11 : List Abs.Op := [
  ⟨some 66, none, true, .ldv 10 true 5 10⟩,
  ⟨some 67, none, true, .mv (.t 1)⟩,
  ⟨some 68, none, true, .call false (.c (.fn i_law11_list [] [])) [(.t 67)]⟩,
  ⟨some 69, none, true, .call false (.c (.fn i_lease_Outlook [] [])) [(.t 66), (.t 68)]⟩,
  ⟨some 65, none, true, .mv (.t 69)⟩,
  ⟨some 70, none, true, .ext (.t 65) 0⟩,
  ⟨some 71, none, true, .ext (.t 65) 1⟩,
  ⟨some 72, none, true, .ext (.t 65) 2⟩,
  ⟨some 15, none, true, .mv (.t 70)⟩,
  ⟨some 16, none, true, .mv (.t 71)⟩,
  ⟨some 17, none, false, .mv (.t 72)⟩]

def f_law11_LeaseCheapest_r12 : List Abs.Op := [
  ⟨some 73, none, false, .mv (.t 14)⟩,
  ⟨some 74, none, false, .bin .neq (.t 73) (.c (.int .i64 0))⟩]

def f_law11_LeaseCheapest_r13 : List Abs.Op := [
  ⟨some 75, none, false, .mv (.t 14)⟩,
  ⟨some 76, none, false, .bin .eql (.t 75) (.c (.int .i64 7))⟩,
  ⟨some 77, none, false, .mv (.t 76)⟩,
  ⟨some 78, some (77, true), false, .mv (.t 17)⟩,
  ⟨some 79, some (77, true), false, .bin .neq (.t 78) (.c (.int .i64 0))⟩,
  ⟨some 80, none, false, .pick (.t 77) (.t 79) (.c (.bool false))⟩,
  ⟨some 81, none, false, .mv (.t 80)⟩,
  ⟨some 82, some (81, true), false, .call false (.c (.fn i_law11_wakes [] [])) []⟩,
  ⟨some 83, none, false, .pick (.t 81) (.t 82) (.c (.bool false))⟩,
  ⟨some 8, none, false, .mv (.t 83)⟩]

def f_law11_LeaseCheapest_r14 : List Abs.Op := [
  ⟨some 85, none, true, .ldv 10 true 5 10⟩,
  ⟨some 86, none, true, .mv (.t 11)⟩,
  ⟨some 87, none, true, .call false (.c (.fn i_law11_list [] [])) [(.t 86)]⟩,
  ⟨some 88, none, true, .call false (.c (.fn i_lease_Outlook [] [])) [(.t 85), (.t 87)]⟩,
  ⟨some 84, none, true, .mv (.t 88)⟩,
  ⟨some 89, none, true, .ext (.t 84) 0⟩,
  ⟨some 90, none, true, .ext (.t 84) 1⟩,
  ⟨some 91, none, true, .ext (.t 84) 2⟩,
  ⟨some 18, none, true, .mv (.t 89)⟩,
  ⟨some 19, none, true, .mv (.t 90)⟩,
  ⟨some 20, none, false, .mv (.t 91)⟩]

def f_law11_LeaseCheapest_r15 : List Abs.Op := [
  ⟨some 92, none, true, .mv (.t 20)⟩,
  ⟨some 93, none, true, .bin .neq (.t 92) (.c (.int .i64 0))⟩,
  ⟨some 94, none, true, .mv (.t 93)⟩,
  ⟨some 95, some (94, false), true, .mv (.t 19)⟩,
  ⟨some 96, some (94, false), true, .mv (.t 12)⟩,
  ⟨some 97, some (94, false), true, .bin .neq (.t 95) (.t 96)⟩,
  ⟨some 98, none, true, .pick (.t 94) (.c (.bool true)) (.t 97)⟩,
  ⟨some 99, none, true, .mv (.t 98)⟩,
  ⟨some 100, some (99, false), true, .ldv 10 true 5 10⟩,
  ⟨some 101, some (99, false), true, .mv (.t 11)⟩,
  ⟨some 102, some (99, false), true, .call false (.c (.fn i_law11_list [] [])) [(.t 101)]⟩,
  ⟨some 103, some (99, false), true, .mv (.t 13)⟩,
  ⟨some 104, some (99, false), true, .call false (.c (.fn i_law11_back [] [])) [(.t 103)]⟩,
  ⟨some 105, some (99, false), true, .call false (.c (.fn i_law11_table [] [])) [(.t 104)]⟩,
  ⟨some 106, some (99, false), true, .call false (.c (.fn i_lease_ProveDrill [] [])) [(.t 100), (.t 102), (.t 105)]⟩,
  ⟨some 107, some (99, false), true, .un .not (.t 106)⟩,
  ⟨some 108, none, true, .pick (.t 99) (.c (.bool true)) (.t 107)⟩,
  ⟨some 109, none, true, .mv (.t 108)⟩,
  ⟨some 110, some (109, false), true, .mv (.t 17)⟩,
  ⟨some 111, some (109, false), true, .bin .eql (.t 110) (.c (.int .i64 0))⟩,
  ⟨some 112, some (109, false), true, .mv (.t 111)⟩,
  ⟨some 113, some (112, true), true, .mv (.t 16)⟩,
  ⟨some 114, some (112, true), true, .mv (.t 12)⟩,
  ⟨some 115, some (112, true), false, .bin .lss (.t 113) (.t 114)⟩,
  ⟨some 116, some (109, false), false, .pick (.t 112) (.t 115) (.c (.bool false))⟩,
  ⟨some 117, none, false, .pick (.t 109) (.c (.bool true)) (.t 116)⟩]

def f_law11_LeaseCheapest_r16 : List Abs.Op := [
  ⟨some 8, none, false, .mv (.c (.bool false))⟩]

def f_law11_LeaseCheapest_r17 : List Abs.Op := [
  ⟨some 119, none, true, .ldv 10 true 5 10⟩,
  ⟨some 120, none, true, .mv (.t 2)⟩,
  ⟨some 121, none, true, .call false (.c (.fn i_law11_list [] [])) [(.t 120)]⟩,
  ⟨some 122, none, true, .call false (.c (.fn i_lease_Outlook [] [])) [(.t 119), (.t 121)]⟩,
  ⟨some 118, none, true, .mv (.t 122)⟩,
  ⟨some 123, none, true, .ext (.t 118) 0⟩,
  ⟨some 124, none, true, .ext (.t 118) 1⟩,
  ⟨some 125, none, true, .ext (.t 118) 2⟩,
  ⟨some 21, none, true, .mv (.t 123)⟩,
  ⟨some 22, none, true, .mv (.t 124)⟩,
  ⟨some 23, none, false, .mv (.t 125)⟩]

def f_law11_LeaseCheapest_r18 : List Abs.Op := [
  ⟨some 126, none, true, .ldv 10 true 5 10⟩,
  ⟨some 127, none, true, .mv (.t 2)⟩,
  ⟨some 128, none, true, .call false (.c (.fn i_law11_list [] [])) [(.t 127)]⟩,
  ⟨some 129, none, true, .mv (.t 3)⟩,
  ⟨some 130, none, true, .call false (.c (.fn i_law11_table [] [])) [(.t 129)]⟩,
  ⟨some 131, none, true, .call false (.c (.fn i_lease_ProveDrill [] [])) [(.t 126), (.t 128), (.t 130)]⟩,
  ⟨some 132, none, true, .un .not (.t 131)⟩,
  ⟨some 133, none, true, .mv (.t 132)⟩,
  ⟨some 134, some (133, false), true, .mv (.t 23)⟩,
  ⟨some 135, some (133, false), true, .bin .eql (.t 134) (.c (.int .i64 0))⟩,
  ⟨some 136, some (133, false), true, .mv (.t 135)⟩,
  ⟨some 137, some (136, true), true, .mv (.t 22)⟩,
  ⟨some 138, some (136, true), true, .mv (.t 12)⟩,
  ⟨some 139, some (136, true), false, .bin .eql (.t 137) (.t 138)⟩,
  ⟨some 140, some (133, false), false, .pick (.t 136) (.t 139) (.c (.bool false))⟩,
  ⟨some 141, none, false, .pick (.t 133) (.c (.bool true)) (.t 140)⟩,
  ⟨some 142, none, false, .mv (.t 141)⟩,
  ⟨some 143, some (142, true), false, .call false (.c (.fn i_law11_wakes [] [])) []⟩,
  ⟨some 144, none, false, .pick (.t 142) (.t 143) (.c (.bool false))⟩,
  ⟨some 8, none, false, .mv (.t 144)⟩]

def a_law11_LeaseCheapest : Ann := ⟨[(17, [8]), (16, [2, 3, 10, 12, 22, 23]), (15, [8]), (14, [2, 3, 10, 12, 117]), (13, [2, 3, 10, 11, 12, 13, 16, 17, 19, 20]), (12, [8]), (11, [2, 3, 10, 11, 12, 13, 14, 16, 17, 74]), (10, [2, 3, 10, 11, 12, 13, 14, 16, 17]), (9, [1, 2, 3, 10, 11, 12, 13, 14]), (8, [1, 2, 3, 10]), (5, [1, 2, 3, 4, 9]), (7, [8]), (6, [1, 2, 3, 4, 9, 54]), (4, [1, 2, 3, 4, 9, 46]), (3, [1, 2, 3, 4, 9]), (2, [8]), (1, [1, 2, 3, 4, 41]), (0, [1, 2, 3, 4])], [(0, [1, 2, 3, 4, 9])], [], [10], [10], [], [], [], [], []⟩
def f_law11_LeaseCheapest : Abs.Fn := ⟨4, [.t 8],
  (.seq (.reg [1, 2, 3, 4] f_law11_LeaseCheapest_r0) (.seq (.seq (.reg [1, 2, 3, 4, 41] f_law11_LeaseCheapest_r1) (.ite (.t 41) (.seq (.reg [8] f_law11_LeaseCheapest_r2) .ret) .nop)) (.seq (.seq (.reg [1, 2, 3, 4, 9] f_law11_LeaseCheapest_r3) (.blk 0 (.loop [1, 2, 3, 4, 9] false f_law11_LeaseCheapest_l8))) (.seq (.reg [1, 2, 3, 10] f_law11_LeaseCheapest_r9) (.seq (.reg [1, 2, 3, 10, 11, 12, 13, 14] f_law11_LeaseCheapest_r10) (.seq (.reg [2, 3, 10, 11, 12, 13, 14, 16, 17] f_law11_LeaseCheapest_r11) (.seq (.seq (.reg [2, 3, 10, 11, 12, 13, 14, 16, 17, 74] f_law11_LeaseCheapest_r12) (.ite (.t 74) (.seq (.reg [8] f_law11_LeaseCheapest_r13) .ret) .nop)) (.seq (.reg [2, 3, 10, 11, 12, 13, 16, 17, 19, 20] f_law11_LeaseCheapest_r14) (.seq (.seq (.reg [2, 3, 10, 12, 117] f_law11_LeaseCheapest_r15) (.ite (.t 117) (.seq (.reg [8] f_law11_LeaseCheapest_r16) .ret) .nop)) (.seq (.reg [2, 3, 10, 12, 22, 23] f_law11_LeaseCheapest_r17) (.seq (.reg [8] f_law11_LeaseCheapest_r18) .ret)))))))))))⟩

theorem e_law11_LeaseCheapest_r0 : type_of% f_law11_LeaseCheapest_r0.eq_1 := by_rfl f_law11_LeaseCheapest_r0.eq_1
theorem e_law11_LeaseCheapest_r1 : type_of% f_law11_LeaseCheapest_r1.eq_1 := by_rfl f_law11_LeaseCheapest_r1.eq_1
theorem e_law11_LeaseCheapest_r2 : type_of% f_law11_LeaseCheapest_r2.eq_1 := by_rfl f_law11_LeaseCheapest_r2.eq_1
theorem e_law11_LeaseCheapest_r3 : type_of% f_law11_LeaseCheapest_r3.eq_1 := by_rfl f_law11_LeaseCheapest_r3.eq_1
theorem e_law11_LeaseCheapest_r4 : type_of% f_law11_LeaseCheapest_r4.eq_1 := by_rfl f_law11_LeaseCheapest_r4.eq_1
theorem e_law11_LeaseCheapest_r5 : type_of% f_law11_LeaseCheapest_r5.eq_1 := by_rfl f_law11_LeaseCheapest_r5.eq_1
theorem e_law11_LeaseCheapest_r6 : type_of% f_law11_LeaseCheapest_r6.eq_1 := by_rfl f_law11_LeaseCheapest_r6.eq_1
theorem e_law11_LeaseCheapest_r7 : type_of% f_law11_LeaseCheapest_r7.eq_1 := by_rfl f_law11_LeaseCheapest_r7.eq_1
theorem e_law11_LeaseCheapest_l8 : type_of% f_law11_LeaseCheapest_l8.eq_1 := by_rfl f_law11_LeaseCheapest_l8.eq_1
theorem e_law11_LeaseCheapest_r9 : type_of% f_law11_LeaseCheapest_r9.eq_1 := by_rfl f_law11_LeaseCheapest_r9.eq_1
theorem e_law11_LeaseCheapest_r10 : type_of% f_law11_LeaseCheapest_r10.eq_1 := by_rfl f_law11_LeaseCheapest_r10.eq_1
theorem e_law11_LeaseCheapest_r11 : type_of% f_law11_LeaseCheapest_r11.eq_1 := by_rfl f_law11_LeaseCheapest_r11.eq_1
theorem e_law11_LeaseCheapest_r12 : type_of% f_law11_LeaseCheapest_r12.eq_1 := by_rfl f_law11_LeaseCheapest_r12.eq_1
theorem e_law11_LeaseCheapest_r13 : type_of% f_law11_LeaseCheapest_r13.eq_1 := by_rfl f_law11_LeaseCheapest_r13.eq_1
theorem e_law11_LeaseCheapest_r14 : type_of% f_law11_LeaseCheapest_r14.eq_1 := by_rfl f_law11_LeaseCheapest_r14.eq_1
theorem e_law11_LeaseCheapest_r15 : type_of% f_law11_LeaseCheapest_r15.eq_1 := by_rfl f_law11_LeaseCheapest_r15.eq_1
theorem e_law11_LeaseCheapest_r16 : type_of% f_law11_LeaseCheapest_r16.eq_1 := by_rfl f_law11_LeaseCheapest_r16.eq_1
theorem e_law11_LeaseCheapest_r17 : type_of% f_law11_LeaseCheapest_r17.eq_1 := by_rfl f_law11_LeaseCheapest_r17.eq_1
theorem e_law11_LeaseCheapest_r18 : type_of% f_law11_LeaseCheapest_r18.eq_1 := by_rfl f_law11_LeaseCheapest_r18.eq_1
theorem e_law11_LeaseCheapest : type_of% f_law11_LeaseCheapest.eq_1 := by_rfl f_law11_LeaseCheapest.eq_1
theorem ok_law11_LeaseCheapest : fnC Tryz.prog a_law11_LeaseCheapest Tryz.f8 = some f_law11_LeaseCheapest := by kernel_rfl

/-! 10 fumarole/fumaroleref11.RightProgramme -/
def f_ref11_RightProgramme_r0 : List Abs.Op := [
  ⟨some 1, none, false, .boxi (.t 0)⟩,
  ⟨some 2, none, false, .mv (.c (.bool false))⟩]

def f_ref11_RightProgramme_r1 : List Abs.Op := [
  ⟨some 4, none, false, .fadr 0 (.t 1)⟩,
  ⟨some 5, none, false, .ld false 1 (.t 4)⟩,
  ⟨some 6, none, false, .call false (.c (.fn i_ref11_In [] [])) [(.t 5), (.c (.int .i64 0)), (.c (.int .i64 1000000))]⟩,
  ⟨some 7, none, false, .un .not (.t 6)⟩,
  ⟨some 8, none, false, .mv (.t 7)⟩,
  ⟨some 9, some (8, false), false, .fadr 1 (.t 1)⟩,
  ⟨some 10, some (8, false), false, .ld false 1 (.t 9)⟩,
  ⟨some 11, some (8, false), false, .call false (.c (.fn i_ref11_In [] [])) [(.t 10), (.c (.int .i64 1)), (.c (.int .i64 1000000))]⟩,
  ⟨some 12, some (8, false), false, .un .not (.t 11)⟩,
  ⟨some 13, none, false, .pick (.t 8) (.c (.bool true)) (.t 12)⟩,
  ⟨some 14, none, false, .mv (.t 13)⟩,
  ⟨some 15, some (14, false), false, .fadr 2 (.t 1)⟩,
  ⟨some 16, some (14, false), false, .ld false 1 (.t 15)⟩,
  ⟨some 17, some (14, false), false, .call false (.c (.fn i_ref11_In [] [])) [(.t 16), (.c (.int .i64 0)), (.c (.int .i64 1000))]⟩,
  ⟨some 18, some (14, false), false, .un .not (.t 17)⟩,
  ⟨some 19, none, false, .pick (.t 14) (.c (.bool true)) (.t 18)⟩,
  ⟨some 20, none, false, .mv (.t 19)⟩,
  ⟨some 21, some (20, false), false, .fadr 3 (.t 1)⟩,
  ⟨some 22, some (20, false), false, .ld false 1 (.t 21)⟩,
  ⟨some 23, some (20, false), false, .call false (.c (.fn i_ref11_In [] [])) [(.t 22), (.c (.int .i64 0)), (.c (.int .i64 3))]⟩,
  ⟨some 24, some (20, false), false, .un .not (.t 23)⟩,
  ⟨some 25, none, false, .pick (.t 20) (.c (.bool true)) (.t 24)⟩,
  ⟨some 26, none, false, .mv (.t 25)⟩,
  ⟨some 27, some (26, false), false, .fadr 4 (.t 1)⟩,
  ⟨some 28, some (26, false), false, .ld false 1 (.t 27)⟩,
  ⟨some 29, some (26, false), false, .lenS (.t 28)⟩,
  ⟨some 30, some (26, false), false, .call false (.c (.fn i_ref11_In [] [])) [(.t 29), (.c (.int .i64 1)), (.c (.int .i64 8))]⟩,
  ⟨some 31, some (26, false), false, .un .not (.t 30)⟩,
  ⟨some 32, none, false, .pick (.t 26) (.c (.bool true)) (.t 31)⟩]

def f_ref11_RightProgramme_r2 : List Abs.Op := [
  ⟨some 2, none, false, .mv (.c (.bool false))⟩]

def f_ref11_RightProgramme_r3 : List Abs.Op := [
  ⟨some 3, none, false, .mv (.c (.int .i64 0))⟩]

def f_ref11_RightProgramme_r4 : List Abs.Op := [
  ⟨some 33, none, false, .mv (.t 3)⟩,
  ⟨some 34, none, false, .fadr 4 (.t 1)⟩,
  ⟨some 35, none, false, .ld false 1 (.t 34)⟩,
  ⟨some 36, none, false, .lenS (.t 35)⟩,
  ⟨some 37, none, false, .bin .lss (.t 33) (.t 36)⟩]

def f_ref11_RightProgramme_r5 : List Abs.Op := [
  ⟨some 40, none, false, .fadr 4 (.t 1)⟩,
  ⟨some 41, none, false, .ld false 1 (.t 40)⟩,
  ⟨some 42, none, false, .mv (.t 3)⟩,
  ⟨some 43, none, false, .idxS 2 (.t 41) (.t 42)⟩,
  ⟨some 44, none, false, .fadr 0 (.t 43)⟩,
  ⟨some 45, none, false, .ld false 1 (.t 44)⟩,
  ⟨some 46, none, false, .call false (.c (.fn i_ref11_In [] [])) [(.t 45), (.c (.int .i64 0)), (.c (.int .i64 30000000))]⟩,
  ⟨some 47, none, false, .un .not (.t 46)⟩,
  ⟨some 48, none, false, .mv (.t 47)⟩,
  ⟨some 49, some (48, false), false, .fadr 4 (.t 1)⟩,
  ⟨some 50, some (48, false), false, .ld false 1 (.t 49)⟩,
  ⟨some 51, some (48, false), false, .mv (.t 3)⟩,
  ⟨some 52, some (48, false), false, .idxS 2 (.t 50) (.t 51)⟩,
  ⟨some 53, some (48, false), false, .fadr 1 (.t 52)⟩,
  ⟨some 54, some (48, false), false, .ld false 1 (.t 53)⟩,
  ⟨some 55, some (48, false), false, .call false (.c (.fn i_ref11_In [] [])) [(.t 54), (.c (.int .i64 0)), (.c (.int .i64 1000000))]⟩,
  ⟨some 56, some (48, false), false, .un .not (.t 55)⟩,
  ⟨some 57, none, false, .pick (.t 48) (.c (.bool true)) (.t 56)⟩]

def f_ref11_RightProgramme_r6 : List Abs.Op := [
  ⟨some 2, none, false, .mv (.c (.bool false))⟩]

def f_ref11_RightProgramme_r7 : List Abs.Op := [
  ⟨some 38, none, false, .mv (.t 3)⟩,
  ⟨some 39, none, false, .bin .add (.t 38) (.c (.int .i64 1))⟩,
  ⟨some 3, none, false, .mv (.t 39)⟩]

def f_ref11_RightProgramme_l8 : Abs.Cmd :=
  (.seq (.seq (.reg [1, 3, 37] f_ref11_RightProgramme_r4) (.ite (.t 37) .nop (.exit 0))) (.seq (.blk 1 (.seq (.reg [1, 3, 57] f_ref11_RightProgramme_r5) (.ite (.t 57) (.seq (.reg [2] f_ref11_RightProgramme_r6) .ret) .nop))) (.reg [1, 3] f_ref11_RightProgramme_r7)))

def f_ref11_RightProgramme_r9 : List Abs.Op := [
  ⟨some 2, none, false, .mv (.c (.bool true))⟩]

def a_ref11_RightProgramme : Ann := ⟨[(8, [2]), (5, [1, 3]), (7, [2]), (6, [1, 3, 57]), (4, [1, 3, 37]), (3, [1, 3]), (2, [2]), (1, [1, 32]), (0, [1])], [(0, [1, 3])], [], [], [], [], [], [], [], []⟩
def f_ref11_RightProgramme : Abs.Fn := ⟨1, [.t 2],
  (.seq (.reg [1] f_ref11_RightProgramme_r0) (.seq (.seq (.reg [1, 32] f_ref11_RightProgramme_r1) (.ite (.t 32) (.seq (.reg [2] f_ref11_RightProgramme_r2) .ret) .nop)) (.seq (.seq (.reg [1, 3] f_ref11_RightProgramme_r3) (.blk 0 (.loop [1, 3] false f_ref11_RightProgramme_l8))) (.seq (.reg [2] f_ref11_RightProgramme_r9) .ret))))⟩

theorem e_ref11_RightProgramme_r0 : type_of% f_ref11_RightProgramme_r0.eq_1 := by_rfl f_ref11_RightProgramme_r0.eq_1
theorem e_ref11_RightProgramme_r1 : type_of% f_ref11_RightProgramme_r1.eq_1 := by_rfl f_ref11_RightProgramme_r1.eq_1
theorem e_ref11_RightProgramme_r2 : type_of% f_ref11_RightProgramme_r2.eq_1 := by_rfl f_ref11_RightProgramme_r2.eq_1
theorem e_ref11_RightProgramme_r3 : type_of% f_ref11_RightProgramme_r3.eq_1 := by_rfl f_ref11_RightProgramme_r3.eq_1
theorem e_ref11_RightProgramme_r4 : type_of% f_ref11_RightProgramme_r4.eq_1 := by_rfl f_ref11_RightProgramme_r4.eq_1
theorem e_ref11_RightProgramme_r5 : type_of% f_ref11_RightProgramme_r5.eq_1 := by_rfl f_ref11_RightProgramme_r5.eq_1
theorem e_ref11_RightProgramme_r6 : type_of% f_ref11_RightProgramme_r6.eq_1 := by_rfl f_ref11_RightProgramme_r6.eq_1
theorem e_ref11_RightProgramme_r7 : type_of% f_ref11_RightProgramme_r7.eq_1 := by_rfl f_ref11_RightProgramme_r7.eq_1
theorem e_ref11_RightProgramme_l8 : type_of% f_ref11_RightProgramme_l8.eq_1 := by_rfl f_ref11_RightProgramme_l8.eq_1
theorem e_ref11_RightProgramme_r9 : type_of% f_ref11_RightProgramme_r9.eq_1 := by_rfl f_ref11_RightProgramme_r9.eq_1
theorem e_ref11_RightProgramme : type_of% f_ref11_RightProgramme.eq_1 := by_rfl f_ref11_RightProgramme.eq_1
theorem ok_ref11_RightProgramme : fnC Tryz.prog a_ref11_RightProgramme Tryz.f10 = some f_ref11_RightProgramme := by kernel_rfl

end Go.Proofs.YtcccafphhmcifaaGreat
