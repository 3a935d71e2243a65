/- The code of functions of the program, in the small instruction set; each is what the translation makes of it. -/
import Derived.Test.YtcccafphhmcifaaIds
set_option linter.unusedVariables false
set_option maxRecDepth 100000
namespace Go.Proofs.Ytcccafphhmcifaa
open Go Go.Abs
/-! 32 fumarole/lease.Room -/
def f_lease_Room_r0 : List Abs.Op := [
  ⟨some 6, none, false, .mv (.c (.int .i64 0))⟩,
  ⟨some 7, none, false, .mv (.c (.int .i64 0))⟩]

def f_lease_Room_r1 : List Abs.Op := [
  ⟨some 14, none, false, .mv (.t 0)⟩,
  ⟨some 15, none, false, .mv (.t 1)⟩,
  ⟨some 16, none, false, .call false (.c (.fn i_lease_taking [] [])) [(.t 14), (.t 15)]⟩,
  ⟨some 8, none, false, .mv (.t 16)⟩]

def f_lease_Room_r2 : List Abs.Op := [
  ⟨some 17, none, false, .mv (.t 8)⟩,
  ⟨some 18, none, false, .bin .neq (.t 17) (.c (.int .i64 0))⟩]

def f_lease_Room_r3 : List Abs.Op := [
  ⟨some 19, none, false, .mv (.t 8)⟩,
  ⟨some 6, none, false, .mv (.c (.int .i64 0))⟩,
  ⟨some 7, none, false, .mv (.t 19)⟩]

def f_lease_Room_r4 : List Abs.Op := [
  ⟨some 20, none, false, .mv (.t 2)⟩,
  ⟨some 21, none, false, .mv (.t 1)⟩,
  ⟨some 22, none, false, .lenS (.t 21)⟩,
  ⟨some 23, none, false, .bin .sub (.t 22) (.c (.int .i64 1))⟩,
  ⟨some 24, none, false, .call false (.c (.fn i_lease_within [] [])) [(.t 20), (.c (.int .i64 0)), (.t 23)]⟩,
  ⟨some 25, none, false, .un .not (.t 24)⟩]

def f_lease_Room_r5 : List Abs.Op := [
  ⟨some 6, none, false, .mv (.c (.int .i64 0))⟩,
  ⟨some 7, none, false, .mv (.c (.int .i64 2))⟩]

def f_lease_Room_r6 : List Abs.Op := [
  ⟨some 26, none, false, .mv (.t 1)⟩,
  ⟨some 27, none, false, .mv (.t 2)⟩,
  ⟨some 28, none, false, .idxS 1 (.t 26) (.t 27)⟩,
  ⟨some 29, none, false, .ld false 1 (.t 28)⟩,
  ⟨some 30, none, false, .bin .sub (.c (.int .i64 1000000)) (.t 29)⟩,
  ⟨some 9, none, false, .mv (.t 30)⟩]

def f_lease_Room_r7 : List Abs.Op := [
  ⟨some 31, none, false, .mv (.t 0)⟩,
  ⟨some 32, none, false, .lenS (.t 31)⟩,
  ⟨some 33, none, false, .mv (.c (.int .i64 0))⟩]

def f_lease_Room_r8 : List Abs.Op := [
  ⟨some 34, none, false, .bin .lss (.t 33) (.t 32)⟩]

def f_lease_Room_r9 : List Abs.Op := [
  ⟨some 35, none, false, .idxS 3 (.t 31) (.t 33)⟩,
  ⟨some 36, none, false, .ld true 3 (.t 35)⟩,
  ⟨some 11, none, false, .alcv [] [(.int .i64 0), (.int .i64 0), .nils]⟩,
  ⟨none, none, false, .stv 11 [] 3 11 (.t 36)⟩]

def f_lease_Room_r10 : List Abs.Op := [
  ⟨some 37, none, true, .ldv 11 true 3 11⟩,
  ⟨some 38, none, true, .mv (.t 1)⟩,
  ⟨some 39, none, true, .call false (.c (.fn i_lease_Spring_behind [] [])) [(.t 37), (.t 38)]⟩,
  ⟨some 40, none, true, .fld false 0 1 (.t 39)⟩,
  ⟨some 41, none, true, .fadr 1 (.t 11)⟩,
  ⟨some 42, none, true, .ldv 11 false 1 41⟩,
  ⟨some 43, none, true, .bin .mul (.c (.int .i64 1000)) (.t 42)⟩,
  ⟨some 44, none, false, .bin .sub (.t 40) (.t 43)⟩,
  ⟨some 12, none, false, .mv (.t 44)⟩]

def f_lease_Room_r11 : List Abs.Op := [
  ⟨some 45, none, false, .mv (.t 12)⟩,
  ⟨some 46, none, false, .bin .lss (.t 45) (.c (.int .i64 0))⟩]

def f_lease_Room_r12 : List Abs.Op := [
  ⟨some 6, none, false, .mv (.c (.int .i64 0))⟩,
  ⟨some 7, none, false, .mv (.c (.int .i64 9))⟩]

def f_lease_Room_r13 : List Abs.Op := [
  ⟨some 47, none, false, .fadr 2 (.t 11)⟩,
  ⟨some 48, none, false, .ldv 11 false 1 47⟩,
  ⟨some 49, none, false, .mv (.t 2)⟩,
  ⟨some 50, none, false, .idxS 2 (.t 48) (.t 49)⟩,
  ⟨some 51, none, false, .fadr 1 (.t 50)⟩,
  ⟨some 52, none, false, .ld false 1 (.t 51)⟩,
  ⟨some 13, none, false, .mv (.t 52)⟩]

def f_lease_Room_r14 : List Abs.Op := [
  ⟨some 53, none, false, .mv (.t 13)⟩,
  ⟨some 54, none, false, .bin .gtr (.t 53) (.c (.int .i64 0))⟩]

def f_lease_Room_r15 : List Abs.Op := [
  ⟨some 55, none, false, .mv (.t 9)⟩,
  ⟨some 56, none, false, .mv (.t 12)⟩,
  ⟨some 57, none, false, .mv (.t 13)⟩,
  ⟨some 58, none, false, .bin .quo (.t 56) (.t 57)⟩,
  ⟨some 59, none, false, .mn (.t 55) (.t 58)⟩,
  ⟨some 9, none, false, .mv (.t 59)⟩]

def f_lease_Room_r16 : List Abs.Op := [
  ⟨some 60, none, false, .bin .add (.t 33) (.c (.int .i64 1))⟩,
  ⟨some 33, none, false, .mv (.t 60)⟩]

def f_lease_Room_l17 : Abs.Cmd :=
  (.seq (.reg [1, 2, 9, 31, 32, 33, 34] f_lease_Room_r8) (.seq (.ite (.t 34) .nop (.exit 0)) (.seq (.blk 1 (.seq (.reg [1, 2, 9, 11, 31, 32, 33] f_lease_Room_r9) (.seq (.reg [1, 2, 9, 11, 12, 31, 32, 33] f_lease_Room_r10) (.seq (.seq (.reg [1, 2, 9, 11, 12, 31, 32, 33, 46] f_lease_Room_r11) (.ite (.t 46) (.seq (.reg [6, 7] f_lease_Room_r12) .ret) .nop)) (.seq (.reg [1, 2, 9, 12, 13, 31, 32, 33] f_lease_Room_r13) (.seq (.reg [1, 2, 9, 12, 13, 31, 32, 33, 54] f_lease_Room_r14) (.ite (.t 54) (.reg [1, 2, 9, 31, 32, 33] f_lease_Room_r15) .nop))))))) (.reg [1, 2, 9, 31, 32, 33] f_lease_Room_r16))))

def f_lease_Room_r18 : List Abs.Op := [
  ⟨some 61, none, false, .mv (.t 9)⟩,
  ⟨some 6, none, false, .mv (.t 61)⟩,
  ⟨some 7, none, false, .mv (.c (.int .i64 0))⟩]

def a_lease_Room : Ann := ⟨[(17, [6, 7]), (16, [1, 2, 9, 31, 32, 33]), (15, [1, 2, 9, 31, 32, 33]), (14, [1, 2, 9, 12, 13, 31, 32, 33, 54]), (13, [1, 2, 9, 12, 13, 31, 32, 33]), (12, [6, 7]), (11, [1, 2, 9, 11, 12, 31, 32, 33, 46]), (10, [1, 2, 9, 11, 12, 31, 32, 33]), (9, [1, 2, 9, 11, 31, 32, 33]), (8, [1, 2, 9, 31, 32, 33, 34]), (7, [1, 2, 9, 31, 32, 33]), (6, [0, 1, 2, 9]), (5, [6, 7]), (4, [0, 1, 2, 25]), (3, [6, 7]), (2, [0, 1, 2, 8, 18]), (1, [0, 1, 2, 8]), (0, [0, 1, 2])], [(0, [1, 2, 9, 31, 32, 33])], [], [11], [11], [], [], [], [], []⟩
def f_lease_Room : Abs.Fn := ⟨3, [.t 6, .t 7],
  (.seq (.reg [0, 1, 2] f_lease_Room_r0) (.seq (.seq (.reg [0, 1, 2, 8] f_lease_Room_r1) (.seq (.reg [0, 1, 2, 8, 18] f_lease_Room_r2) (.ite (.t 18) (.seq (.reg [6, 7] f_lease_Room_r3) .ret) .nop))) (.seq (.seq (.reg [0, 1, 2, 25] f_lease_Room_r4) (.ite (.t 25) (.seq (.reg [6, 7] f_lease_Room_r5) .ret) .nop)) (.seq (.reg [0, 1, 2, 9] f_lease_Room_r6) (.seq (.seq (.reg [1, 2, 9, 31, 32, 33] f_lease_Room_r7) (.blk 0 (.loop [1, 2, 9, 31, 32, 33] false f_lease_Room_l17))) (.seq (.reg [6, 7] f_lease_Room_r18) .ret))))))⟩

theorem e_lease_Room_r0 : type_of% f_lease_Room_r0.eq_1 := by_rfl f_lease_Room_r0.eq_1
theorem e_lease_Room_r1 : type_of% f_lease_Room_r1.eq_1 := by_rfl f_lease_Room_r1.eq_1
theorem e_lease_Room_r2 : type_of% f_lease_Room_r2.eq_1 := by_rfl f_lease_Room_r2.eq_1
theorem e_lease_Room_r3 : type_of% f_lease_Room_r3.eq_1 := by_rfl f_lease_Room_r3.eq_1
theorem e_lease_Room_r4 : type_of% f_lease_Room_r4.eq_1 := by_rfl f_lease_Room_r4.eq_1
theorem e_lease_Room_r5 : type_of% f_lease_Room_r5.eq_1 := by_rfl f_lease_Room_r5.eq_1
theorem e_lease_Room_r6 : type_of% f_lease_Room_r6.eq_1 := by_rfl f_lease_Room_r6.eq_1
theorem e_lease_Room_r7 : type_of% f_lease_Room_r7.eq_1 := by_rfl f_lease_Room_r7.eq_1
theorem e_lease_Room_r8 : type_of% f_lease_Room_r8.eq_1 := by_rfl f_lease_Room_r8.eq_1
theorem e_lease_Room_r9 : type_of% f_lease_Room_r9.eq_1 := by_rfl f_lease_Room_r9.eq_1
theorem e_lease_Room_r10 : type_of% f_lease_Room_r10.eq_1 := by_rfl f_lease_Room_r10.eq_1
theorem e_lease_Room_r11 : type_of% f_lease_Room_r11.eq_1 := by_rfl f_lease_Room_r11.eq_1
theorem e_lease_Room_r12 : type_of% f_lease_Room_r12.eq_1 := by_rfl f_lease_Room_r12.eq_1
theorem e_lease_Room_r13 : type_of% f_lease_Room_r13.eq_1 := by_rfl f_lease_Room_r13.eq_1
theorem e_lease_Room_r14 : type_of% f_lease_Room_r14.eq_1 := by_rfl f_lease_Room_r14.eq_1
theorem e_lease_Room_r15 : type_of% f_lease_Room_r15.eq_1 := by_rfl f_lease_Room_r15.eq_1
theorem e_lease_Room_r16 : type_of% f_lease_Room_r16.eq_1 := by_rfl f_lease_Room_r16.eq_1
theorem e_lease_Room_l17 : type_of% f_lease_Room_l17.eq_1 := by_rfl f_lease_Room_l17.eq_1
theorem e_lease_Room_r18 : type_of% f_lease_Room_r18.eq_1 := by_rfl f_lease_Room_r18.eq_1
theorem e_lease_Room : type_of% f_lease_Room.eq_1 := by_rfl f_lease_Room.eq_1
theorem ok_lease_Room : fnC Try.prog a_lease_Room Try.f32 = some f_lease_Room := by kernel_rfl

/-! 33 fumarole/lease.Royalty -/
def f_lease_Royalty_r0 : List Abs.Op := [
  ⟨some 3, none, false, .boxi (.t 0)⟩,
  ⟨some 6, none, false, .mv (.c (.int .i64 0))⟩,
  ⟨some 7, none, false, .mv (.c (.int .i64 0))⟩]

def f_lease_Royalty_r1 : List Abs.Op := [
  ⟨some 14, none, false, .ld true 2 (.t 3)⟩,
  ⟨some 15, none, false, .call false (.c (.fn i_lease_Rule_valid [] [])) [(.t 14)]⟩,
  ⟨some 16, none, false, .un .not (.t 15)⟩,
  ⟨some 13, none, false, .mv (.t 16)⟩]

def f_lease_Royalty_r2 : List Abs.Op := [
  ⟨some 6, none, false, .mv (.c (.int .i64 0))⟩,
  ⟨some 7, none, false, .mv (.c (.int .i64 1))⟩]

def f_lease_Royalty_r3 : List Abs.Op := [
  ⟨some 18, none, false, .mv (.t 1)⟩,
  ⟨some 19, none, false, .call false (.c (.fn i_lease_total [] [])) [(.t 18)]⟩,
  ⟨some 20, none, false, .un .not (.t 19)⟩,
  ⟨some 21, none, false, .mv (.t 20)⟩,
  ⟨some 22, some (21, false), false, .mv (.t 2)⟩,
  ⟨some 23, some (21, false), false, .call false (.c (.fn i_lease_within [] [])) [(.t 22), (.c (.int .i64 0)), (.c (.int .i64 1000))]⟩,
  ⟨some 24, some (21, false), false, .un .not (.t 23)⟩,
  ⟨some 25, none, false, .pick (.t 21) (.c (.bool true)) (.t 24)⟩,
  ⟨some 17, none, false, .mv (.t 25)⟩]

def f_lease_Royalty_r4 : List Abs.Op := [
  ⟨some 6, none, false, .mv (.c (.int .i64 0))⟩,
  ⟨some 7, none, false, .mv (.c (.int .i64 2))⟩]

def f_lease_Royalty_r5 : List Abs.Op := [
  ⟨some 8, none, false, .mv (.c (.int .i64 0))⟩,
  ⟨some 9, none, false, .mv (.c (.int .i64 0))⟩]

def f_lease_Royalty_r6 : List Abs.Op := [
  ⟨some 26, none, false, .fadr 1 (.t 3)⟩,
  ⟨some 27, none, false, .ld false 1 (.t 26)⟩,
  ⟨some 28, none, false, .lenS (.t 27)⟩,
  ⟨some 29, none, false, .mv (.c (.int .i64 0))⟩]

def f_lease_Royalty_r7 : List Abs.Op := [
  ⟨some 30, none, false, .bin .lss (.t 29) (.t 28)⟩]

def f_lease_Royalty_r8 : List Abs.Op := [
  ⟨some 31, none, false, .mv (.t 29)⟩,
  ⟨some 32, none, false, .idxS 2 (.t 27) (.t 29)⟩,
  ⟨some 33, none, false, .ld true 2 (.t 32)⟩,
  ⟨some 11, none, false, .alcv [] [(.int .i64 0), (.int .i64 0)]⟩,
  ⟨some 10, none, false, .mv (.t 31)⟩,
  ⟨none, none, false, .stv 11 [] 2 11 (.t 33)⟩]

def f_lease_Royalty_r9 : List Abs.Op := [
  ⟨some 34, none, false, .fadr 0 (.t 11)⟩,
  ⟨some 35, none, false, .ldv 11 false 1 34⟩,
  ⟨some 36, none, false, .mv (.t 1)⟩,
  ⟨some 37, none, false, .mn (.t 35) (.t 36)⟩,
  ⟨some 12, none, false, .mv (.t 37)⟩]

def f_lease_Royalty_r10 : List Abs.Op := [
  ⟨some 38, none, false, .mv (.t 10)⟩,
  ⟨some 39, none, false, .fadr 1 (.t 3)⟩,
  ⟨some 40, none, false, .ld false 1 (.t 39)⟩,
  ⟨some 41, none, false, .lenS (.t 40)⟩,
  ⟨some 42, none, false, .bin .sub (.t 41) (.c (.int .i64 1))⟩,
  ⟨some 43, none, false, .bin .eql (.t 38) (.t 42)⟩]

def f_lease_Royalty_r11 : List Abs.Op := [
  ⟨some 44, none, false, .mv (.t 1)⟩,
  ⟨some 12, none, false, .mv (.t 44)⟩]

def f_lease_Royalty_r12 : List Abs.Op := [
  ⟨some 45, none, false, .mv (.t 8)⟩,
  ⟨some 46, none, false, .mv (.t 12)⟩,
  ⟨some 47, none, false, .mv (.t 9)⟩,
  ⟨some 48, none, false, .bin .sub (.t 46) (.t 47)⟩,
  ⟨some 49, none, false, .mx (.c (.int .i64 0)) (.t 48)⟩,
  ⟨some 50, none, false, .fadr 1 (.t 11)⟩,
  ⟨some 51, none, false, .ldv 11 false 1 50⟩,
  ⟨some 52, none, false, .bin .mul (.t 49) (.t 51)⟩,
  ⟨some 53, none, false, .bin .add (.t 45) (.t 52)⟩,
  ⟨some 8, none, false, .mv (.t 53)⟩]

def f_lease_Royalty_r13 : List Abs.Op := [
  ⟨some 54, none, false, .mv (.t 9)⟩,
  ⟨some 55, none, false, .mv (.t 12)⟩,
  ⟨some 56, none, false, .mx (.t 54) (.t 55)⟩,
  ⟨some 9, none, false, .mv (.t 56)⟩]

def f_lease_Royalty_r14 : List Abs.Op := [
  ⟨some 57, none, false, .bin .add (.t 29) (.c (.int .i64 1))⟩,
  ⟨some 29, none, false, .mv (.t 57)⟩]

def f_lease_Royalty_l15 : Abs.Cmd :=
  (.seq (.reg [1, 2, 3, 8, 9, 27, 28, 29, 30] f_lease_Royalty_r7) (.seq (.ite (.t 30) .nop (.exit 1)) (.seq (.blk 2 (.seq (.reg [1, 2, 3, 8, 9, 10, 11, 27, 28, 29] f_lease_Royalty_r8) (.seq (.reg [1, 2, 3, 8, 9, 10, 11, 12, 27, 28, 29] f_lease_Royalty_r9) (.seq (.seq (.reg [1, 2, 3, 8, 9, 11, 12, 27, 28, 29, 43] f_lease_Royalty_r10) (.ite (.t 43) (.reg [1, 2, 3, 8, 9, 11, 12, 27, 28, 29] f_lease_Royalty_r11) .nop)) (.seq (.reg [1, 2, 3, 8, 9, 12, 27, 28, 29] f_lease_Royalty_r12) (.reg [1, 2, 3, 8, 9, 27, 28, 29] f_lease_Royalty_r13)))))) (.reg [1, 2, 3, 8, 9, 27, 28, 29] f_lease_Royalty_r14))))

def f_lease_Royalty_r16 : List Abs.Op := [
  ⟨some 58, none, false, .fadr 0 (.t 3)⟩,
  ⟨some 59, none, false, .ld false 1 (.t 58)⟩,
  ⟨some 60, none, false, .mv (.t 8)⟩,
  ⟨some 61, none, false, .mv (.t 2)⟩,
  ⟨some 62, none, false, .bin .mul (.t 60) (.t 61)⟩,
  ⟨some 63, none, false, .bin .quo (.t 62) (.c (.int .i64 1000000))⟩,
  ⟨some 64, none, false, .mx (.t 59) (.t 63)⟩,
  ⟨some 6, none, false, .mv (.t 64)⟩,
  ⟨some 7, none, false, .mv (.c (.int .i64 0))⟩]

def a_lease_Royalty : Ann := ⟨[(15, [6, 7]), (14, [1, 2, 3, 8, 9, 27, 28, 29]), (13, [1, 2, 3, 8, 9, 27, 28, 29]), (12, [1, 2, 3, 8, 9, 12, 27, 28, 29]), (11, [1, 2, 3, 8, 9, 11, 12, 27, 28, 29]), (10, [1, 2, 3, 8, 9, 11, 12, 27, 28, 29, 43]), (9, [1, 2, 3, 8, 9, 10, 11, 12, 27, 28, 29]), (8, [1, 2, 3, 8, 9, 10, 11, 27, 28, 29]), (7, [1, 2, 3, 8, 9, 27, 28, 29, 30]), (6, [1, 2, 3, 8, 9, 27, 28, 29]), (5, [1, 2, 3, 8, 9]), (2, [6, 7]), (4, [6, 7]), (3, [1, 2, 3, 17]), (1, [1, 2, 3, 13]), (0, [1, 2, 3])], [(1, [1, 2, 3, 8, 9, 27, 28, 29])], [], [11], [11], [], [], [], [], []⟩
def f_lease_Royalty : Abs.Fn := ⟨3, [.t 6, .t 7],
  (.seq (.reg [1, 2, 3] f_lease_Royalty_r0) (.seq (.blk 0 (.seq (.reg [1, 2, 3, 13] f_lease_Royalty_r1) (.ite (.t 13) (.seq (.reg [6, 7] f_lease_Royalty_r2) .ret) (.seq (.reg [1, 2, 3, 17] f_lease_Royalty_r3) (.ite (.t 17) (.seq (.reg [6, 7] f_lease_Royalty_r4) .ret) .nop))))) (.seq (.reg [1, 2, 3, 8, 9] f_lease_Royalty_r5) (.seq (.seq (.reg [1, 2, 3, 8, 9, 27, 28, 29] f_lease_Royalty_r6) (.blk 1 (.loop [1, 2, 3, 8, 9, 27, 28, 29] false f_lease_Royalty_l15))) (.seq (.reg [6, 7] f_lease_Royalty_r16) .ret)))))⟩

theorem e_lease_Royalty_r0 : type_of% f_lease_Royalty_r0.eq_1 := by_rfl f_lease_Royalty_r0.eq_1
theorem e_lease_Royalty_r1 : type_of% f_lease_Royalty_r1.eq_1 := by_rfl f_lease_Royalty_r1.eq_1
theorem e_lease_Royalty_r2 : type_of% f_lease_Royalty_r2.eq_1 := by_rfl f_lease_Royalty_r2.eq_1
theorem e_lease_Royalty_r3 : type_of% f_lease_Royalty_r3.eq_1 := by_rfl f_lease_Royalty_r3.eq_1
theorem e_lease_Royalty_r4 : type_of% f_lease_Royalty_r4.eq_1 := by_rfl f_lease_Royalty_r4.eq_1
theorem e_lease_Royalty_r5 : type_of% f_lease_Royalty_r5.eq_1 := by_rfl f_lease_Royalty_r5.eq_1
theorem e_lease_Royalty_r6 : type_of% f_lease_Royalty_r6.eq_1 := by_rfl f_lease_Royalty_r6.eq_1
theorem e_lease_Royalty_r7 : type_of% f_lease_Royalty_r7.eq_1 := by_rfl f_lease_Royalty_r7.eq_1
theorem e_lease_Royalty_r8 : type_of% f_lease_Royalty_r8.eq_1 := by_rfl f_lease_Royalty_r8.eq_1
theorem e_lease_Royalty_r9 : type_of% f_lease_Royalty_r9.eq_1 := by_rfl f_lease_Royalty_r9.eq_1
theorem e_lease_Royalty_r10 : type_of% f_lease_Royalty_r10.eq_1 := by_rfl f_lease_Royalty_r10.eq_1
theorem e_lease_Royalty_r11 : type_of% f_lease_Royalty_r11.eq_1 := by_rfl f_lease_Royalty_r11.eq_1
theorem e_lease_Royalty_r12 : type_of% f_lease_Royalty_r12.eq_1 := by_rfl f_lease_Royalty_r12.eq_1
theorem e_lease_Royalty_r13 : type_of% f_lease_Royalty_r13.eq_1 := by_rfl f_lease_Royalty_r13.eq_1
theorem e_lease_Royalty_r14 : type_of% f_lease_Royalty_r14.eq_1 := by_rfl f_lease_Royalty_r14.eq_1
theorem e_lease_Royalty_l15 : type_of% f_lease_Royalty_l15.eq_1 := by_rfl f_lease_Royalty_l15.eq_1
theorem e_lease_Royalty_r16 : type_of% f_lease_Royalty_r16.eq_1 := by_rfl f_lease_Royalty_r16.eq_1
theorem e_lease_Royalty : type_of% f_lease_Royalty.eq_1 := by_rfl f_lease_Royalty.eq_1
theorem ok_lease_Royalty : fnC Try.prog a_lease_Royalty Try.f33 = some f_lease_Royalty := by kernel_rfl

/-! 34 fumarole/fumarolelaw11.Rule -/
def f_law11_Rule_r0 : List Abs.Op := [
  ⟨some 1, none, false, .boxi (.t 0)⟩,
  ⟨some 2, none, false, .alcv [] [(.int .i64 0), .nils]⟩]

def f_law11_Rule_r1 : List Abs.Op := [
  ⟨some 5, none, false, .fadr 0 (.t 1)⟩,
  ⟨some 6, none, false, .ld false 1 (.t 5)⟩,
  ⟨some 7, none, false, .bld [(.int .i64 0), .nils] [(0, 1, (.t 6))]⟩,
  ⟨some 3, none, false, .alcv [] [(.int .i64 0), .nils]⟩,
  ⟨none, none, false, .stv 3 [(1, 2)] 2 3 (.t 7)⟩]

def f_law11_Rule_r2 : List Abs.Op := [
  ⟨some 4, none, false, .mv (.c (.int .i64 0))⟩]

def f_law11_Rule_r3 : List Abs.Op := [
  ⟨some 8, none, false, .mv (.t 4)⟩,
  ⟨some 9, none, false, .fadr 1 (.t 1)⟩,
  ⟨some 10, none, false, .ld false 1 (.t 9)⟩,
  ⟨some 11, none, false, .lenS (.t 10)⟩,
  ⟨some 12, none, false, .bin .lss (.t 8) (.t 11)⟩]

def f_law11_Rule_r4 : List Abs.Op := [
  ⟨some 15, none, true, .fadr 1 (.t 3)⟩,
  ⟨some 16, none, true, .ldv 3 false 1 15⟩,
  ⟨some 17, none, true, .fadr 1 (.t 1)⟩,
  ⟨some 18, none, true, .ld false 1 (.t 17)⟩,
  ⟨some 19, none, true, .mv (.t 4)⟩,
  ⟨some 20, none, true, .idxS 2 (.t 18) (.t 19)⟩,
  ⟨some 21, none, true, .fadr 0 (.t 20)⟩,
  ⟨some 22, none, true, .ld false 1 (.t 21)⟩,
  ⟨some 23, none, true, .fadr 1 (.t 1)⟩,
  ⟨some 24, none, true, .ld false 1 (.t 23)⟩,
  ⟨some 25, none, true, .mv (.t 4)⟩,
  ⟨some 26, none, true, .idxS 2 (.t 24) (.t 25)⟩,
  ⟨some 27, none, true, .fadr 1 (.t 26)⟩,
  ⟨some 28, none, true, .ld false 1 (.t 27)⟩,
  ⟨some 29, none, true, .bld [(.int .i64 0), (.int .i64 0)] [(0, 1, (.t 22)), (1, 1, (.t 28))]⟩,
  ⟨some 30, none, true, .bsi 1 2 [(.int .i64 0), (.int .i64 0)] [(0, 2, (.t 29))]⟩,
  ⟨some 31, none, false, .app 2 16 (.t 16) (.t 30)⟩,
  ⟨some 32, none, false, .fadr 1 (.t 3)⟩,
  ⟨none, none, false, .stv 3 [(0, 2)] 1 32 (.t 31)⟩]

def f_law11_Rule_r5 : List Abs.Op := [
  ⟨some 13, none, false, .mv (.t 4)⟩,
  ⟨some 14, none, false, .bin .add (.t 13) (.c (.int .i64 1))⟩,
  ⟨some 4, none, false, .mv (.t 14)⟩]

def f_law11_Rule_l6 : Abs.Cmd :=
  (.seq (.seq (.reg [1, 2, 3, 4, 12] f_law11_Rule_r3) (.ite (.t 12) .nop (.exit 0))) (.seq (.blk 1 (.reg [1, 2, 3, 4] f_law11_Rule_r4)) (.reg [1, 2, 3, 4] f_law11_Rule_r5)))

def f_law11_Rule_r7 : List Abs.Op := [
  ⟨some 33, none, false, .ldv 3 true 2 3⟩,
  ⟨none, none, false, .stv 2 [] 2 2 (.t 33)⟩]

def a_law11_Rule : Ann := ⟨[(6, [2]), (4, [1, 2, 3, 4]), (5, [1, 2, 3, 4]), (3, [1, 2, 3, 4, 12]), (2, [1, 2, 3, 4]), (1, [1, 2, 3]), (0, [1, 2])], [(0, [1, 2, 3, 4])], [], [2, 3], [2, 3], [(1004, [(1, 2)]), (5018, [(0, 2)])], [], [], [], []⟩
def f_law11_Rule : Abs.Fn := ⟨1, [.v 2 true 2],
  (.seq (.reg [1, 2] f_law11_Rule_r0) (.seq (.reg [1, 2, 3] f_law11_Rule_r1) (.seq (.seq (.reg [1, 2, 3, 4] f_law11_Rule_r2) (.blk 0 (.loop [1, 2, 3, 4] false f_law11_Rule_l6))) (.seq (.reg [2] f_law11_Rule_r7) .ret))))⟩

theorem e_law11_Rule_r0 : type_of% f_law11_Rule_r0.eq_1 := by_rfl f_law11_Rule_r0.eq_1
theorem e_law11_Rule_r1 : type_of% f_law11_Rule_r1.eq_1 := by_rfl f_law11_Rule_r1.eq_1
theorem e_law11_Rule_r2 : type_of% f_law11_Rule_r2.eq_1 := by_rfl f_law11_Rule_r2.eq_1
theorem e_law11_Rule_r3 : type_of% f_law11_Rule_r3.eq_1 := by_rfl f_law11_Rule_r3.eq_1
theorem e_law11_Rule_r4 : type_of% f_law11_Rule_r4.eq_1 := by_rfl f_law11_Rule_r4.eq_1
theorem e_law11_Rule_r5 : type_of% f_law11_Rule_r5.eq_1 := by_rfl f_law11_Rule_r5.eq_1
theorem e_law11_Rule_l6 : type_of% f_law11_Rule_l6.eq_1 := by_rfl f_law11_Rule_l6.eq_1
theorem e_law11_Rule_r7 : type_of% f_law11_Rule_r7.eq_1 := by_rfl f_law11_Rule_r7.eq_1
theorem e_law11_Rule : type_of% f_law11_Rule.eq_1 := by_rfl f_law11_Rule.eq_1
theorem ok_law11_Rule : fnC Try.prog a_law11_Rule Try.f34 = some f_law11_Rule := by kernel_rfl

/-! 35 fumarole/fumaroleref11.RightRule -/
def f_ref11_RightRule_r0 : List Abs.Op := [
  ⟨some 1, none, false, .boxi (.t 0)⟩,
  ⟨some 2, none, false, .mv (.c (.bool false))⟩]

def f_ref11_RightRule_r1 : List Abs.Op := [
  ⟨some 3, none, false, .mv (.c (.int .i64 0))⟩]

def f_ref11_RightRule_r2 : List Abs.Op := [
  ⟨some 5, none, false, .mv (.t 3)⟩,
  ⟨some 6, none, false, .fadr 1 (.t 1)⟩,
  ⟨some 7, none, false, .ld false 1 (.t 6)⟩,
  ⟨some 8, none, false, .lenS (.t 7)⟩,
  ⟨some 9, none, false, .bin .lss (.t 5) (.t 8)⟩]

def f_ref11_RightRule_r3 : List Abs.Op := [
  ⟨some 12, none, false, .fadr 1 (.t 1)⟩,
  ⟨some 13, none, false, .ld false 1 (.t 12)⟩,
  ⟨some 14, none, false, .mv (.t 3)⟩,
  ⟨some 15, none, false, .idxS 2 (.t 13) (.t 14)⟩,
  ⟨some 16, none, false, .ld true 2 (.t 15)⟩,
  ⟨some 4, none, false, .alcv [] [(.int .i64 0), (.int .i64 0)]⟩,
  ⟨none, none, false, .stv 4 [] 2 4 (.t 16)⟩]

def f_ref11_RightRule_r4 : List Abs.Op := [
  ⟨some 17, none, true, .fadr 0 (.t 4)⟩,
  ⟨some 18, none, true, .ldv 4 false 1 17⟩,
  ⟨some 19, none, true, .call false (.c (.fn i_ref11_In [] [])) [(.t 18), (.c (.int .i64 1)), (.c (.int .i64 1000000000000))]⟩,
  ⟨some 20, none, true, .un .not (.t 19)⟩,
  ⟨some 21, none, true, .mv (.t 20)⟩,
  ⟨some 22, some (21, false), true, .fadr 1 (.t 4)⟩,
  ⟨some 23, some (21, false), true, .ldv 4 false 1 22⟩,
  ⟨some 24, some (21, false), true, .call false (.c (.fn i_ref11_In [] [])) [(.t 23), (.c (.int .i64 0)), (.c (.int .i64 1000))]⟩,
  ⟨some 25, some (21, false), true, .un .not (.t 24)⟩,
  ⟨some 26, none, true, .pick (.t 21) (.c (.bool true)) (.t 25)⟩,
  ⟨some 27, none, true, .mv (.t 26)⟩,
  ⟨some 28, some (27, false), true, .mv (.t 3)⟩,
  ⟨some 29, some (27, false), true, .bin .gtr (.t 28) (.c (.int .i64 0))⟩,
  ⟨some 30, some (27, false), true, .mv (.t 29)⟩,
  ⟨some 31, some (30, true), true, .fadr 0 (.t 4)⟩,
  ⟨some 32, some (30, true), true, .ldv 4 false 1 31⟩,
  ⟨some 33, some (30, true), true, .fadr 1 (.t 1)⟩,
  ⟨some 34, some (30, true), true, .ld false 1 (.t 33)⟩,
  ⟨some 35, some (30, true), true, .mv (.t 3)⟩,
  ⟨some 36, some (30, true), true, .bin .sub (.t 35) (.c (.int .i64 1))⟩,
  ⟨some 37, some (30, true), true, .idxS 2 (.t 34) (.t 36)⟩,
  ⟨some 38, some (30, true), true, .fadr 0 (.t 37)⟩,
  ⟨some 39, some (30, true), true, .ld false 1 (.t 38)⟩,
  ⟨some 40, some (30, true), false, .bin .leq (.t 32) (.t 39)⟩,
  ⟨some 41, some (27, false), false, .pick (.t 30) (.t 40) (.c (.bool false))⟩,
  ⟨some 42, none, false, .pick (.t 27) (.c (.bool true)) (.t 41)⟩]

def f_ref11_RightRule_r5 : List Abs.Op := [
  ⟨some 2, none, false, .mv (.c (.bool false))⟩]

def f_ref11_RightRule_r6 : List Abs.Op := [
  ⟨some 10, none, false, .mv (.t 3)⟩,
  ⟨some 11, none, false, .bin .add (.t 10) (.c (.int .i64 1))⟩,
  ⟨some 3, none, false, .mv (.t 11)⟩]

def f_ref11_RightRule_l7 : Abs.Cmd :=
  (.seq (.seq (.reg [1, 3, 9] f_ref11_RightRule_r2) (.ite (.t 9) .nop (.exit 0))) (.seq (.blk 1 (.seq (.reg [1, 3, 4] f_ref11_RightRule_r3) (.seq (.reg [1, 3, 42] f_ref11_RightRule_r4) (.ite (.t 42) (.seq (.reg [2] f_ref11_RightRule_r5) .ret) .nop)))) (.reg [1, 3] f_ref11_RightRule_r6)))

def f_ref11_RightRule_r8 : List Abs.Op := [
  ⟨some 43, none, false, .fadr 0 (.t 1)⟩,
  ⟨some 44, none, false, .ld false 1 (.t 43)⟩,
  ⟨some 45, none, false, .call false (.c (.fn i_ref11_In [] [])) [(.t 44), (.c (.int .i64 0)), (.c (.int .i64 1000000000000))]⟩,
  ⟨some 46, none, false, .mv (.t 45)⟩,
  ⟨some 47, some (46, true), false, .fadr 1 (.t 1)⟩,
  ⟨some 48, some (46, true), false, .ld false 1 (.t 47)⟩,
  ⟨some 49, some (46, true), false, .lenS (.t 48)⟩,
  ⟨some 50, some (46, true), false, .bin .geq (.t 49) (.c (.int .i64 1))⟩,
  ⟨some 51, none, false, .pick (.t 46) (.t 50) (.c (.bool false))⟩,
  ⟨some 52, none, false, .mv (.t 51)⟩,
  ⟨some 53, some (52, true), false, .fadr 1 (.t 1)⟩,
  ⟨some 54, some (52, true), false, .ld false 1 (.t 53)⟩,
  ⟨some 55, some (52, true), false, .lenS (.t 54)⟩,
  ⟨some 56, some (52, true), false, .bin .leq (.t 55) (.c (.int .i64 6))⟩,
  ⟨some 57, none, false, .pick (.t 52) (.t 56) (.c (.bool false))⟩,
  ⟨some 2, none, false, .mv (.t 57)⟩]

def a_ref11_RightRule : Ann := ⟨[(7, [2]), (3, [1, 3]), (6, [2]), (5, [1, 3, 42]), (4, [1, 3, 4]), (2, [1, 3, 9]), (1, [1, 3]), (0, [1])], [(0, [1, 3])], [], [4], [4], [], [], [], [], []⟩
def f_ref11_RightRule : Abs.Fn := ⟨1, [.t 2],
  (.seq (.reg [1] f_ref11_RightRule_r0) (.seq (.seq (.reg [1, 3] f_ref11_RightRule_r1) (.blk 0 (.loop [1, 3] false f_ref11_RightRule_l7))) (.seq (.reg [2] f_ref11_RightRule_r8) .ret)))⟩

theorem e_ref11_RightRule_r0 : type_of% f_ref11_RightRule_r0.eq_1 := by_rfl f_ref11_RightRule_r0.eq_1
theorem e_ref11_RightRule_r1 : type_of% f_ref11_RightRule_r1.eq_1 := by_rfl f_ref11_RightRule_r1.eq_1
theorem e_ref11_RightRule_r2 : type_of% f_ref11_RightRule_r2.eq_1 := by_rfl f_ref11_RightRule_r2.eq_1
theorem e_ref11_RightRule_r3 : type_of% f_ref11_RightRule_r3.eq_1 := by_rfl f_ref11_RightRule_r3.eq_1
theorem e_ref11_RightRule_r4 : type_of% f_ref11_RightRule_r4.eq_1 := by_rfl f_ref11_RightRule_r4.eq_1
theorem e_ref11_RightRule_r5 : type_of% f_ref11_RightRule_r5.eq_1 := by_rfl f_ref11_RightRule_r5.eq_1
theorem e_ref11_RightRule_r6 : type_of% f_ref11_RightRule_r6.eq_1 := by_rfl f_ref11_RightRule_r6.eq_1
theorem e_ref11_RightRule_l7 : type_of% f_ref11_RightRule_l7.eq_1 := by_rfl f_ref11_RightRule_l7.eq_1
theorem e_ref11_RightRule_r8 : type_of% f_ref11_RightRule_r8.eq_1 := by_rfl f_ref11_RightRule_r8.eq_1
theorem e_ref11_RightRule : type_of% f_ref11_RightRule.eq_1 := by_rfl f_ref11_RightRule.eq_1
theorem ok_ref11_RightRule : fnC Try.prog a_ref11_RightRule Try.f35 = some f_ref11_RightRule := by kernel_rfl

/-! 37 fumarole/fumarolelaw11.few -/
def f_law11_few_r0 : List Abs.Op := [
  ⟨some 1, none, false, .boxi (.t 0)⟩,
  ⟨some 2, none, false, .mv (.c (.bool false))⟩]

def f_law11_few_r1 : List Abs.Op := [
  ⟨some 3, none, false, .mv (.c (.int .i64 0))⟩]

def f_law11_few_r2 : List Abs.Op := [
  ⟨some 4, none, false, .mv (.t 3)⟩,
  ⟨some 5, none, false, .fadr 1 (.t 1)⟩,
  ⟨some 6, none, false, .ld false 1 (.t 5)⟩,
  ⟨some 7, none, false, .lenS (.t 6)⟩,
  ⟨some 8, none, false, .bin .lss (.t 4) (.t 7)⟩]

def f_law11_few_r3 : List Abs.Op := [
  ⟨some 11, none, false, .fadr 1 (.t 1)⟩,
  ⟨some 12, none, false, .ld false 1 (.t 11)⟩,
  ⟨some 13, none, false, .mv (.t 3)⟩,
  ⟨some 14, none, false, .idxS 1 (.t 12) (.t 13)⟩,
  ⟨some 15, none, false, .ld false 1 (.t 14)⟩,
  ⟨some 16, none, false, .lenS (.t 15)⟩,
  ⟨some 17, none, false, .bin .gtr (.t 16) (.c (.int .i64 12))⟩]

def f_law11_few_r4 : List Abs.Op := [
  ⟨some 2, none, false, .mv (.c (.bool false))⟩]

def f_law11_few_r5 : List Abs.Op := [
  ⟨some 9, none, false, .mv (.t 3)⟩,
  ⟨some 10, none, false, .bin .add (.t 9) (.c (.int .i64 1))⟩,
  ⟨some 3, none, false, .mv (.t 10)⟩]

def f_law11_few_l6 : Abs.Cmd :=
  (.seq (.seq (.reg [1, 3, 8] f_law11_few_r2) (.ite (.t 8) .nop (.exit 0))) (.seq (.blk 1 (.seq (.reg [1, 3, 17] f_law11_few_r3) (.ite (.t 17) (.seq (.reg [2] f_law11_few_r4) .ret) .nop))) (.reg [1, 3] f_law11_few_r5)))

def f_law11_few_r7 : List Abs.Op := [
  ⟨some 18, none, false, .fadr 1 (.t 1)⟩,
  ⟨some 19, none, false, .ld false 1 (.t 18)⟩,
  ⟨some 20, none, false, .lenS (.t 19)⟩,
  ⟨some 21, none, false, .bin .leq (.t 20) (.c (.int .i64 25))⟩,
  ⟨some 2, none, false, .mv (.t 21)⟩]

def a_law11_few : Ann := ⟨[(6, [2]), (3, [1, 3]), (5, [2]), (4, [1, 3, 17]), (2, [1, 3, 8]), (1, [1, 3]), (0, [1])], [(0, [1, 3])], [], [], [], [], [], [], [], []⟩
def f_law11_few : Abs.Fn := ⟨1, [.t 2],
  (.seq (.reg [1] f_law11_few_r0) (.seq (.seq (.reg [1, 3] f_law11_few_r1) (.blk 0 (.loop [1, 3] false f_law11_few_l6))) (.seq (.reg [2] f_law11_few_r7) .ret)))⟩

theorem e_law11_few_r0 : type_of% f_law11_few_r0.eq_1 := by_rfl f_law11_few_r0.eq_1
theorem e_law11_few_r1 : type_of% f_law11_few_r1.eq_1 := by_rfl f_law11_few_r1.eq_1
theorem e_law11_few_r2 : type_of% f_law11_few_r2.eq_1 := by_rfl f_law11_few_r2.eq_1
theorem e_law11_few_r3 : type_of% f_law11_few_r3.eq_1 := by_rfl f_law11_few_r3.eq_1
theorem e_law11_few_r4 : type_of% f_law11_few_r4.eq_1 := by_rfl f_law11_few_r4.eq_1
theorem e_law11_few_r5 : type_of% f_law11_few_r5.eq_1 := by_rfl f_law11_few_r5.eq_1
theorem e_law11_few_l6 : type_of% f_law11_few_l6.eq_1 := by_rfl f_law11_few_l6.eq_1
theorem e_law11_few_r7 : type_of% f_law11_few_r7.eq_1 := by_rfl f_law11_few_r7.eq_1
theorem e_law11_few : type_of% f_law11_few.eq_1 := by_rfl f_law11_few.eq_1
theorem ok_law11_few : fnC Try.prog a_law11_few Try.f37 = some f_law11_few := by kernel_rfl

/-! 38 fumarole/fumaroleref11.Right -/
def f_ref11_Right_r0 : List Abs.Op := [
  ⟨some 1, none, false, .boxi (.t 0)⟩,
  ⟨some 2, none, false, .mv (.c (.bool false))⟩]

def f_ref11_Right_r1 : List Abs.Op := [
  ⟨some 6, none, false, .fadr 0 (.t 1)⟩,
  ⟨some 7, none, false, .ld false 1 (.t 6)⟩,
  ⟨some 8, none, false, .call false (.c (.fn i_ref11_In [] [])) [(.t 7), (.c (.int .i64 1)), (.c (.int .i64 8))]⟩,
  ⟨some 9, none, false, .un .not (.t 8)⟩,
  ⟨some 10, none, false, .mv (.t 9)⟩,
  ⟨some 11, some (10, false), false, .fadr 1 (.t 1)⟩,
  ⟨some 12, some (10, false), false, .ld false 1 (.t 11)⟩,
  ⟨some 13, some (10, false), false, .lenS (.t 12)⟩,
  ⟨some 14, some (10, false), false, .call false (.c (.fn i_ref11_In [] [])) [(.t 13), (.c (.int .i64 1)), (.c (.int .i64 20))]⟩,
  ⟨some 15, some (10, false), false, .un .not (.t 14)⟩,
  ⟨some 16, none, false, .pick (.t 10) (.c (.bool true)) (.t 15)⟩]

def f_ref11_Right_r2 : List Abs.Op := [
  ⟨some 2, none, false, .mv (.c (.bool false))⟩]

def f_ref11_Right_r3 : List Abs.Op := [
  ⟨some 3, none, false, .mv (.c (.int .i64 0))⟩]

def f_ref11_Right_r4 : List Abs.Op := [
  ⟨some 17, none, false, .mv (.t 3)⟩,
  ⟨some 18, none, false, .fadr 1 (.t 1)⟩,
  ⟨some 19, none, false, .ld false 1 (.t 18)⟩,
  ⟨some 20, none, false, .lenS (.t 19)⟩,
  ⟨some 21, none, false, .bin .lss (.t 17) (.t 20)⟩]

def f_ref11_Right_r5 : List Abs.Op := [
  ⟨some 4, none, false, .mv (.c (.int .i64 0))⟩]

def f_ref11_Right_r6 : List Abs.Op := [
  ⟨some 5, none, false, .mv (.c (.int .i64 0))⟩]

def f_ref11_Right_r7 : List Abs.Op := [
  ⟨some 24, none, false, .mv (.t 5)⟩,
  ⟨some 25, none, false, .fadr 1 (.t 1)⟩,
  ⟨some 26, none, false, .ld false 1 (.t 25)⟩,
  ⟨some 27, none, false, .mv (.t 3)⟩,
  ⟨some 28, none, false, .idxS 1 (.t 26) (.t 27)⟩,
  ⟨some 29, none, false, .ld false 1 (.t 28)⟩,
  ⟨some 30, none, false, .lenS (.t 29)⟩,
  ⟨some 31, none, false, .bin .lss (.t 24) (.t 30)⟩]

def f_ref11_Right_r8 : List Abs.Op := [
  ⟨some 34, none, false, .fadr 1 (.t 1)⟩,
  ⟨some 35, none, false, .ld false 1 (.t 34)⟩,
  ⟨some 36, none, false, .mv (.t 3)⟩,
  ⟨some 37, none, false, .idxS 1 (.t 35) (.t 36)⟩,
  ⟨some 38, none, false, .ld false 1 (.t 37)⟩,
  ⟨some 39, none, false, .mv (.t 5)⟩,
  ⟨some 40, none, false, .idxS 1 (.t 38) (.t 39)⟩,
  ⟨some 41, none, false, .ld false 1 (.t 40)⟩,
  ⟨some 42, none, false, .call false (.c (.fn i_ref11_In [] [])) [(.t 41), (.c (.int .i64 0)), (.c (.int .i64 1000))]⟩,
  ⟨some 43, none, false, .un .not (.t 42)⟩]

def f_ref11_Right_r9 : List Abs.Op := [
  ⟨some 2, none, false, .mv (.c (.bool false))⟩]

def f_ref11_Right_r10 : List Abs.Op := [
  ⟨some 44, none, false, .mv (.t 4)⟩,
  ⟨some 45, none, false, .fadr 1 (.t 1)⟩,
  ⟨some 46, none, false, .ld false 1 (.t 45)⟩,
  ⟨some 47, none, false, .mv (.t 3)⟩,
  ⟨some 48, none, false, .idxS 1 (.t 46) (.t 47)⟩,
  ⟨some 49, none, false, .ld false 1 (.t 48)⟩,
  ⟨some 50, none, false, .mv (.t 5)⟩,
  ⟨some 51, none, false, .idxS 1 (.t 49) (.t 50)⟩,
  ⟨some 52, none, false, .ld false 1 (.t 51)⟩,
  ⟨some 53, none, false, .bin .add (.t 44) (.t 52)⟩,
  ⟨some 4, none, false, .mv (.t 53)⟩]

def f_ref11_Right_r11 : List Abs.Op := [
  ⟨some 32, none, false, .mv (.t 5)⟩,
  ⟨some 33, none, false, .bin .add (.t 32) (.c (.int .i64 1))⟩,
  ⟨some 5, none, false, .mv (.t 33)⟩]

def f_ref11_Right_l12 : Abs.Cmd :=
  (.seq (.seq (.reg [1, 3, 4, 5, 31] f_ref11_Right_r7) (.ite (.t 31) .nop (.exit 2))) (.seq (.blk 3 (.seq (.seq (.reg [1, 3, 4, 5, 43] f_ref11_Right_r8) (.ite (.t 43) (.seq (.reg [2] f_ref11_Right_r9) .ret) .nop)) (.reg [1, 3, 4, 5] f_ref11_Right_r10))) (.reg [1, 3, 4, 5] f_ref11_Right_r11)))

def f_ref11_Right_r13 : List Abs.Op := [
  ⟨some 54, none, true, .fadr 1 (.t 1)⟩,
  ⟨some 55, none, true, .ld false 1 (.t 54)⟩,
  ⟨some 56, none, true, .mv (.t 3)⟩,
  ⟨some 57, none, true, .idxS 1 (.t 55) (.t 56)⟩,
  ⟨some 58, none, true, .ld false 1 (.t 57)⟩,
  ⟨some 59, none, true, .lenS (.t 58)⟩,
  ⟨some 60, none, true, .fadr 0 (.t 1)⟩,
  ⟨some 61, none, true, .ld false 1 (.t 60)⟩,
  ⟨some 62, none, false, .bin .neq (.t 59) (.t 61)⟩,
  ⟨some 63, none, false, .mv (.t 62)⟩,
  ⟨some 64, some (63, false), false, .mv (.t 4)⟩,
  ⟨some 65, some (63, false), false, .bin .gtr (.t 64) (.c (.int .i64 1000))⟩,
  ⟨some 66, none, false, .pick (.t 63) (.c (.bool true)) (.t 65)⟩]

def f_ref11_Right_r14 : List Abs.Op := [
  ⟨some 2, none, false, .mv (.c (.bool false))⟩]

def f_ref11_Right_r15 : List Abs.Op := [
  ⟨some 22, none, false, .mv (.t 3)⟩,
  ⟨some 23, none, false, .bin .add (.t 22) (.c (.int .i64 1))⟩,
  ⟨some 3, none, false, .mv (.t 23)⟩]

def f_ref11_Right_l16 : Abs.Cmd :=
  (.seq (.seq (.reg [1, 3, 21] f_ref11_Right_r4) (.ite (.t 21) .nop (.exit 0))) (.seq (.blk 1 (.seq (.reg [1, 3, 4] f_ref11_Right_r5) (.seq (.seq (.reg [1, 3, 4, 5] f_ref11_Right_r6) (.blk 2 (.loop [1, 3, 4, 5] false f_ref11_Right_l12))) (.seq (.reg [1, 3, 66] f_ref11_Right_r13) (.ite (.t 66) (.seq (.reg [2] f_ref11_Right_r14) .ret) .nop))))) (.reg [1, 3] f_ref11_Right_r15)))

def f_ref11_Right_r17 : List Abs.Op := [
  ⟨some 2, none, false, .mv (.c (.bool true))⟩]

def a_ref11_Right : Ann := ⟨[(15, [2]), (5, [1, 3]), (14, [2]), (13, [1, 3, 66]), (9, [1, 3, 4, 5]), (12, [1, 3, 4, 5]), (11, [2]), (10, [1, 3, 4, 5, 43]), (8, [1, 3, 4, 5, 31]), (7, [1, 3, 4, 5]), (6, [1, 3, 4]), (4, [1, 3, 21]), (3, [1, 3]), (2, [2]), (1, [1, 16]), (0, [1])], [(2, [1, 3, 4, 5]), (0, [1, 3])], [], [], [], [], [], [], [], []⟩
def f_ref11_Right : Abs.Fn := ⟨1, [.t 2],
  (.seq (.reg [1] f_ref11_Right_r0) (.seq (.seq (.reg [1, 16] f_ref11_Right_r1) (.ite (.t 16) (.seq (.reg [2] f_ref11_Right_r2) .ret) .nop)) (.seq (.seq (.reg [1, 3] f_ref11_Right_r3) (.blk 0 (.loop [1, 3] false f_ref11_Right_l16))) (.seq (.reg [2] f_ref11_Right_r17) .ret))))⟩

theorem e_ref11_Right_r0 : type_of% f_ref11_Right_r0.eq_1 := by_rfl f_ref11_Right_r0.eq_1
theorem e_ref11_Right_r1 : type_of% f_ref11_Right_r1.eq_1 := by_rfl f_ref11_Right_r1.eq_1
theorem e_ref11_Right_r2 : type_of% f_ref11_Right_r2.eq_1 := by_rfl f_ref11_Right_r2.eq_1
theorem e_ref11_Right_r3 : type_of% f_ref11_Right_r3.eq_1 := by_rfl f_ref11_Right_r3.eq_1
theorem e_ref11_Right_r4 : type_of% f_ref11_Right_r4.eq_1 := by_rfl f_ref11_Right_r4.eq_1
theorem e_ref11_Right_r5 : type_of% f_ref11_Right_r5.eq_1 := by_rfl f_ref11_Right_r5.eq_1
theorem e_ref11_Right_r6 : type_of% f_ref11_Right_r6.eq_1 := by_rfl f_ref11_Right_r6.eq_1
theorem e_ref11_Right_r7 : type_of% f_ref11_Right_r7.eq_1 := by_rfl f_ref11_Right_r7.eq_1
theorem e_ref11_Right_r8 : type_of% f_ref11_Right_r8.eq_1 := by_rfl f_ref11_Right_r8.eq_1
theorem e_ref11_Right_r9 : type_of% f_ref11_Right_r9.eq_1 := by_rfl f_ref11_Right_r9.eq_1
theorem e_ref11_Right_r10 : type_of% f_ref11_Right_r10.eq_1 := by_rfl f_ref11_Right_r10.eq_1
theorem e_ref11_Right_r11 : type_of% f_ref11_Right_r11.eq_1 := by_rfl f_ref11_Right_r11.eq_1
theorem e_ref11_Right_l12 : type_of% f_ref11_Right_l12.eq_1 := by_rfl f_ref11_Right_l12.eq_1
theorem e_ref11_Right_r13 : type_of% f_ref11_Right_r13.eq_1 := by_rfl f_ref11_Right_r13.eq_1
theorem e_ref11_Right_r14 : type_of% f_ref11_Right_r14.eq_1 := by_rfl f_ref11_Right_r14.eq_1
theorem e_ref11_Right_r15 : type_of% f_ref11_Right_r15.eq_1 := by_rfl f_ref11_Right_r15.eq_1
theorem e_ref11_Right_l16 : type_of% f_ref11_Right_l16.eq_1 := by_rfl f_ref11_Right_l16.eq_1
theorem e_ref11_Right_r17 : type_of% f_ref11_Right_r17.eq_1 := by_rfl f_ref11_Right_r17.eq_1
theorem e_ref11_Right : type_of% f_ref11_Right.eq_1 := by_rfl f_ref11_Right.eq_1
theorem ok_ref11_Right : fnC Try.prog a_ref11_Right Try.f38 = some f_ref11_Right := by kernel_rfl

/-! 39 fumarole/fumarolelaw11.Concession -/
def f_law11_Concession_r0 : List Abs.Op := [
  ⟨some 1, none, false, .boxi (.t 0)⟩,
  ⟨some 2, none, false, .alcv [] [(.int .i64 0), .nils]⟩]

def f_law11_Concession_r1 : List Abs.Op := [
  ⟨some 5, none, false, .fadr 0 (.t 1)⟩,
  ⟨some 6, none, false, .ldi false 1 (.t 5)⟩,
  ⟨some 7, none, false, .bld [(.int .i64 0), .nils] [(0, 1, (.t 6))]⟩,
  ⟨some 3, none, false, .alcv [] [(.int .i64 0), .nils]⟩,
  ⟨none, none, false, .stv 3 [(1, 1)] 2 3 (.t 7)⟩]

def f_law11_Concession_r2 : List Abs.Op := [
  ⟨some 4, none, false, .mv (.c (.int .i64 0))⟩]

def f_law11_Concession_r3 : List Abs.Op := [
  ⟨some 8, none, false, .mv (.t 4)⟩,
  ⟨some 9, none, false, .fadr 1 (.t 1)⟩,
  ⟨some 10, none, false, .ldi false 1 (.t 9)⟩,
  ⟨some 11, none, false, .lenS (.t 10)⟩,
  ⟨some 12, none, false, .bin .lss (.t 8) (.t 11)⟩]

def f_law11_Concession_r4 : List Abs.Op := [
  ⟨some 15, none, true, .fadr 1 (.t 3)⟩,
  ⟨some 16, none, true, .ldv 3 false 1 15⟩,
  ⟨some 17, none, true, .bsm 0 1 [] []⟩,
  ⟨some 18, none, true, .fadr 1 (.t 1)⟩,
  ⟨some 19, none, true, .ldi false 1 (.t 18)⟩,
  ⟨some 20, none, true, .mv (.t 4)⟩,
  ⟨some 21, none, true, .idxS 1 (.t 19) (.t 20)⟩,
  ⟨some 22, none, true, .ldi false 1 (.t 21)⟩,
  ⟨some 23, none, false, .apz 1 8 (.t 17) (.t 22)⟩,
  ⟨some 24, none, true, .bsi 1 1 [.nils] [(0, 1, (.t 23))]⟩,
  ⟨some 25, none, false, .app 1 24 (.t 16) (.t 24)⟩,
  ⟨some 26, none, false, .fadr 1 (.t 3)⟩,
  ⟨none, none, false, .stv 3 [(0, 1)] 1 26 (.t 25)⟩]

def f_law11_Concession_r5 : List Abs.Op := [
  ⟨some 13, none, false, .mv (.t 4)⟩,
  ⟨some 14, none, false, .bin .add (.t 13) (.c (.int .i64 1))⟩,
  ⟨some 4, none, false, .mv (.t 14)⟩]

def f_law11_Concession_l6 : Abs.Cmd :=
  (.seq (.seq (.reg [1, 2, 3, 4, 12] f_law11_Concession_r3) (.ite (.t 12) .nop (.exit 0))) (.seq (.blk 1 (.reg [1, 2, 3, 4] f_law11_Concession_r4)) (.reg [1, 2, 3, 4] f_law11_Concession_r5)))

def f_law11_Concession_r7 : List Abs.Op := [
  ⟨some 27, none, false, .ldv 3 true 2 3⟩,
  ⟨none, none, false, .stv 2 [] 2 2 (.t 27)⟩]

def a_law11_Concession : Ann := ⟨[(6, [2]), (4, [1, 2, 3, 4]), (5, [1, 2, 3, 4]), (3, [1, 2, 3, 4, 12]), (2, [1, 2, 3, 4]), (1, [1, 2, 3]), (0, [1, 2])], [(0, [1, 2, 3, 4])], [0], [2, 3, 17], [2, 3], [(1004, [(1, 1)]), (5012, [(0, 1)])], [5008], [], [1, 10, 19], []⟩
def f_law11_Concession : Abs.Fn := ⟨1, [.v 2 true 2],
  (.seq (.reg [1, 2] f_law11_Concession_r0) (.seq (.reg [1, 2, 3] f_law11_Concession_r1) (.seq (.seq (.reg [1, 2, 3, 4] f_law11_Concession_r2) (.blk 0 (.loop [1, 2, 3, 4] true f_law11_Concession_l6))) (.seq (.reg [2] f_law11_Concession_r7) .ret))))⟩

theorem e_law11_Concession_r0 : type_of% f_law11_Concession_r0.eq_1 := by_rfl f_law11_Concession_r0.eq_1
theorem e_law11_Concession_r1 : type_of% f_law11_Concession_r1.eq_1 := by_rfl f_law11_Concession_r1.eq_1
theorem e_law11_Concession_r2 : type_of% f_law11_Concession_r2.eq_1 := by_rfl f_law11_Concession_r2.eq_1
theorem e_law11_Concession_r3 : type_of% f_law11_Concession_r3.eq_1 := by_rfl f_law11_Concession_r3.eq_1
theorem e_law11_Concession_r4 : type_of% f_law11_Concession_r4.eq_1 := by_rfl f_law11_Concession_r4.eq_1
theorem e_law11_Concession_r5 : type_of% f_law11_Concession_r5.eq_1 := by_rfl f_law11_Concession_r5.eq_1
theorem e_law11_Concession_l6 : type_of% f_law11_Concession_l6.eq_1 := by_rfl f_law11_Concession_l6.eq_1
theorem e_law11_Concession_r7 : type_of% f_law11_Concession_r7.eq_1 := by_rfl f_law11_Concession_r7.eq_1
theorem e_law11_Concession : type_of% f_law11_Concession.eq_1 := by_rfl f_law11_Concession.eq_1
theorem ok_law11_Concession : fnC Try.prog a_law11_Concession Try.f39 = some f_law11_Concession := by kernel_rfl

/-! 40 fumarole/lease.Divide -/
def f_lease_Divide_r0 : List Abs.Op := [
  ⟨some 3, none, false, .boxi (.t 0)⟩,
  ⟨some 6, none, false, .mv (.c .nils)⟩,
  ⟨some 7, none, false, .mv (.c (.int .i64 0))⟩,
  ⟨some 8, none, false, .mv (.c (.int .i64 0))⟩]

def f_lease_Divide_r1 : List Abs.Op := [
  ⟨some 15, none, false, .ld true 2 (.t 3)⟩,
  ⟨some 16, none, false, .call false (.c (.fn i_lease_Concession_valid [] [])) [(.t 15)]⟩,
  ⟨some 17, none, false, .un .not (.t 16)⟩,
  ⟨some 14, none, false, .mv (.t 17)⟩]

def f_lease_Divide_r2 : List Abs.Op := [
  ⟨some 6, none, false, .mv (.c .nils)⟩,
  ⟨some 7, none, false, .mv (.c (.int .i64 0))⟩,
  ⟨some 8, none, false, .mv (.c (.int .i64 1))⟩]

def f_lease_Divide_r3 : List Abs.Op := [
  ⟨some 19, none, false, .ld true 2 (.t 3)⟩,
  ⟨some 20, none, false, .mv (.t 1)⟩,
  ⟨some 21, none, false, .call false (.c (.fn i_lease_Concession_masses [] [])) [(.t 19), (.t 20)]⟩,
  ⟨some 22, none, false, .un .not (.t 21)⟩,
  ⟨some 23, none, false, .mv (.t 22)⟩,
  ⟨some 24, some (23, false), false, .ld true 2 (.t 3)⟩,
  ⟨some 25, some (23, false), false, .mv (.t 2)⟩,
  ⟨some 26, some (23, false), false, .call false (.c (.fn i_lease_Concession_masses [] [])) [(.t 24), (.t 25)]⟩,
  ⟨some 27, some (23, false), false, .un .not (.t 26)⟩,
  ⟨some 28, none, false, .pick (.t 23) (.c (.bool true)) (.t 27)⟩,
  ⟨some 18, none, false, .mv (.t 28)⟩]

def f_lease_Divide_r4 : List Abs.Op := [
  ⟨some 6, none, false, .mv (.c .nils)⟩,
  ⟨some 7, none, false, .mv (.c (.int .i64 0))⟩,
  ⟨some 8, none, false, .mv (.c (.int .i64 2))⟩]

def f_lease_Divide_r5 : List Abs.Op := [
  ⟨some 29, none, false, .mv (.t 1)⟩,
  ⟨some 30, none, false, .call true (.c (.fn i_slices_Clone_int [] [])) [(.t 29)]⟩,
  ⟨some 9, none, false, .mv (.t 30)⟩]

def f_lease_Divide_r6 : List Abs.Op := [
  ⟨some 31, none, false, .mv (.t 9)⟩,
  ⟨some 32, none, false, .lenS (.t 31)⟩,
  ⟨some 33, none, false, .mv (.c (.int .i64 0))⟩]

def f_lease_Divide_r7 : List Abs.Op := [
  ⟨some 34, none, false, .bin .lss (.t 33) (.t 32)⟩]

def f_lease_Divide_r8 : List Abs.Op := [
  ⟨some 35, none, false, .mv (.t 33)⟩,
  ⟨some 10, none, false, .mv (.t 35)⟩]

def f_lease_Divide_r9 : List Abs.Op := [
  ⟨some 36, none, true, .mv (.t 9)⟩,
  ⟨some 37, none, true, .mv (.t 10)⟩,
  ⟨some 38, none, true, .idxS 1 (.t 36) (.t 37)⟩,
  ⟨some 39, none, true, .ld false 1 (.t 38)⟩,
  ⟨some 40, none, true, .mv (.t 2)⟩,
  ⟨some 41, none, true, .mv (.t 10)⟩,
  ⟨some 42, none, true, .idxS 1 (.t 40) (.t 41)⟩,
  ⟨some 43, none, true, .ld false 1 (.t 42)⟩,
  ⟨some 44, none, false, .bin .add (.t 39) (.t 43)⟩,
  ⟨some 45, none, false, .idxS 1 (.t 36) (.t 37)⟩,
  ⟨none, none, false, .st [] 1 (.t 45) (.t 44)⟩]

def f_lease_Divide_r10 : List Abs.Op := [
  ⟨some 46, none, false, .bin .add (.t 33) (.c (.int .i64 1))⟩,
  ⟨some 33, none, false, .mv (.t 46)⟩]

def f_lease_Divide_l11 : Abs.Cmd :=
  (.seq (.reg [1, 2, 3, 9, 32, 33, 34] f_lease_Divide_r7) (.seq (.ite (.t 34) .nop (.exit 1)) (.seq (.blk 2 (.seq (.reg [1, 2, 3, 9, 10, 32, 33] f_lease_Divide_r8) (.reg [1, 2, 3, 9, 32, 33] f_lease_Divide_r9))) (.reg [1, 2, 3, 9, 32, 33] f_lease_Divide_r10))))

def f_lease_Divide_r12 : List Abs.Op := [
  ⟨some 47, none, false, .ld true 2 (.t 3)⟩,
  ⟨some 48, none, false, .mv (.t 9)⟩,
  ⟨some 49, none, false, .call false (.c (.fn i_lease_Concession_masses [] [])) [(.t 47), (.t 48)]⟩,
  ⟨some 50, none, false, .un .not (.t 49)⟩]

def f_lease_Divide_r13 : List Abs.Op := [
  ⟨some 6, none, false, .mv (.c .nils)⟩,
  ⟨some 7, none, false, .mv (.c (.int .i64 0))⟩,
  ⟨some 8, none, false, .mv (.c (.int .i64 2))⟩]

def f_lease_Divide_r14 : List Abs.Op := [
  ⟨some 52, none, false, .ld true 2 (.t 3)⟩,
  ⟨some 53, none, false, .mv (.t 9)⟩,
  ⟨some 54, none, false, .call true (.c (.fn i_lease_Concession_due [] [])) [(.t 52), (.t 53)]⟩,
  ⟨some 51, none, false, .mv (.t 54)⟩,
  ⟨some 55, none, false, .ext (.t 51) 0⟩,
  ⟨some 56, none, false, .ext (.t 51) 1⟩,
  ⟨some 6, none, false, .mv (.t 55)⟩,
  ⟨some 7, none, false, .mv (.t 56)⟩]

def f_lease_Divide_r15 : List Abs.Op := [
  ⟨some 58, none, false, .ld true 2 (.t 3)⟩,
  ⟨some 59, none, false, .mv (.t 1)⟩,
  ⟨some 60, none, false, .call false (.c (.fn i_lease_Concession_due [] [])) [(.t 58), (.t 59)]⟩,
  ⟨some 57, none, false, .mv (.t 60)⟩,
  ⟨some 61, none, false, .ext (.t 57) 0⟩,
  ⟨some 62, none, false, .ext (.t 57) 1⟩,
  ⟨some 11, none, false, .mv (.t 61)⟩,
  ⟨some 12, none, false, .mv (.t 62)⟩]

def f_lease_Divide_r16 : List Abs.Op := [
  ⟨some 63, none, false, .mv (.t 6)⟩,
  ⟨some 64, none, false, .lenS (.t 63)⟩,
  ⟨some 65, none, false, .mv (.c (.int .i64 0))⟩]

def f_lease_Divide_r17 : List Abs.Op := [
  ⟨some 66, none, false, .bin .lss (.t 65) (.t 64)⟩]

def f_lease_Divide_r18 : List Abs.Op := [
  ⟨some 67, none, false, .mv (.t 65)⟩,
  ⟨some 13, none, false, .mv (.t 67)⟩]

def f_lease_Divide_r19 : List Abs.Op := [
  ⟨some 68, none, true, .mv (.t 6)⟩,
  ⟨some 69, none, true, .mv (.t 13)⟩,
  ⟨some 70, none, true, .idxS 1 (.t 68) (.t 69)⟩,
  ⟨some 71, none, true, .ld false 1 (.t 70)⟩,
  ⟨some 72, none, true, .mv (.t 11)⟩,
  ⟨some 73, none, true, .mv (.t 13)⟩,
  ⟨some 74, none, true, .idxS 1 (.t 72) (.t 73)⟩,
  ⟨some 75, none, true, .ld false 1 (.t 74)⟩,
  ⟨some 76, none, false, .bin .sub (.t 71) (.t 75)⟩,
  ⟨some 77, none, false, .idxS 1 (.t 68) (.t 69)⟩,
  ⟨none, none, false, .st [] 1 (.t 77) (.t 76)⟩]

def f_lease_Divide_r20 : List Abs.Op := [
  ⟨some 78, none, false, .bin .add (.t 65) (.c (.int .i64 1))⟩,
  ⟨some 65, none, false, .mv (.t 78)⟩]

def f_lease_Divide_l21 : Abs.Cmd :=
  (.seq (.reg [6, 7, 11, 12, 64, 65, 66] f_lease_Divide_r17) (.seq (.ite (.t 66) .nop (.exit 3)) (.seq (.blk 4 (.seq (.reg [6, 7, 11, 12, 13, 64, 65] f_lease_Divide_r18) (.reg [6, 7, 11, 12, 64, 65] f_lease_Divide_r19))) (.reg [6, 7, 11, 12, 64, 65] f_lease_Divide_r20))))

def f_lease_Divide_r22 : List Abs.Op := [
  ⟨some 79, none, false, .mv (.t 6)⟩,
  ⟨some 80, none, false, .mv (.t 7)⟩,
  ⟨some 81, none, false, .mv (.t 12)⟩,
  ⟨some 82, none, false, .bin .sub (.t 80) (.t 81)⟩,
  ⟨some 6, none, false, .mv (.t 79)⟩,
  ⟨some 7, none, false, .mv (.t 82)⟩,
  ⟨some 8, none, false, .mv (.c (.int .i64 0))⟩]

def a_lease_Divide : Ann := ⟨[(20, [6, 7, 8]), (19, [6, 7, 11, 12, 64, 65]), (18, [6, 7, 11, 12, 64, 65]), (17, [6, 7, 11, 12, 13, 64, 65]), (16, [6, 7, 11, 12, 64, 65, 66]), (15, [6, 7, 11, 12, 64, 65]), (14, [6, 7, 11, 12]), (13, [1, 3, 6, 7]), (12, [6, 7, 8]), (11, [1, 3, 9, 50]), (10, [1, 2, 3, 9, 32, 33]), (9, [1, 2, 3, 9, 32, 33]), (8, [1, 2, 3, 9, 10, 32, 33]), (7, [1, 2, 3, 9, 32, 33, 34]), (6, [1, 2, 3, 9, 32, 33]), (5, [1, 2, 3, 9]), (2, [6, 7, 8]), (4, [6, 7, 8]), (3, [1, 2, 3, 18]), (1, [1, 2, 3, 14]), (0, [1, 2, 3])], [(3, [6, 7, 11, 12, 64, 65]), (1, [1, 2, 3, 9, 32, 33])], [], [], [], [], [5001, 13002], [(11, [9])], [], []⟩
def f_lease_Divide : Abs.Fn := ⟨3, [.t 6, .t 7, .t 8],
  (.seq (.reg [1, 2, 3] f_lease_Divide_r0) (.seq (.blk 0 (.seq (.reg [1, 2, 3, 14] f_lease_Divide_r1) (.ite (.t 14) (.seq (.reg [6, 7, 8] f_lease_Divide_r2) .ret) (.seq (.reg [1, 2, 3, 18] f_lease_Divide_r3) (.ite (.t 18) (.seq (.reg [6, 7, 8] f_lease_Divide_r4) .ret) .nop))))) (.seq (.reg [1, 2, 3, 9] f_lease_Divide_r5) (.seq (.seq (.reg [1, 2, 3, 9, 32, 33] f_lease_Divide_r6) (.blk 1 (.loop [1, 2, 3, 9, 32, 33] false f_lease_Divide_l11))) (.seq (.seq (.seq (.frz [9]) (.reg [1, 3, 9, 50] f_lease_Divide_r12)) (.ite (.t 50) (.seq (.reg [6, 7, 8] f_lease_Divide_r13) .ret) .nop)) (.seq (.reg [1, 3, 6, 7] f_lease_Divide_r14) (.seq (.reg [6, 7, 11, 12] f_lease_Divide_r15) (.seq (.seq (.reg [6, 7, 11, 12, 64, 65] f_lease_Divide_r16) (.blk 3 (.loop [6, 7, 11, 12, 64, 65] false f_lease_Divide_l21))) (.seq (.reg [6, 7, 8] f_lease_Divide_r22) .ret)))))))))⟩

theorem e_lease_Divide_r0 : type_of% f_lease_Divide_r0.eq_1 := by_rfl f_lease_Divide_r0.eq_1
theorem e_lease_Divide_r1 : type_of% f_lease_Divide_r1.eq_1 := by_rfl f_lease_Divide_r1.eq_1
theorem e_lease_Divide_r2 : type_of% f_lease_Divide_r2.eq_1 := by_rfl f_lease_Divide_r2.eq_1
theorem e_lease_Divide_r3 : type_of% f_lease_Divide_r3.eq_1 := by_rfl f_lease_Divide_r3.eq_1
theorem e_lease_Divide_r4 : type_of% f_lease_Divide_r4.eq_1 := by_rfl f_lease_Divide_r4.eq_1
theorem e_lease_Divide_r5 : type_of% f_lease_Divide_r5.eq_1 := by_rfl f_lease_Divide_r5.eq_1
theorem e_lease_Divide_r6 : type_of% f_lease_Divide_r6.eq_1 := by_rfl f_lease_Divide_r6.eq_1
theorem e_lease_Divide_r7 : type_of% f_lease_Divide_r7.eq_1 := by_rfl f_lease_Divide_r7.eq_1
theorem e_lease_Divide_r8 : type_of% f_lease_Divide_r8.eq_1 := by_rfl f_lease_Divide_r8.eq_1
theorem e_lease_Divide_r9 : type_of% f_lease_Divide_r9.eq_1 := by_rfl f_lease_Divide_r9.eq_1
theorem e_lease_Divide_r10 : type_of% f_lease_Divide_r10.eq_1 := by_rfl f_lease_Divide_r10.eq_1
theorem e_lease_Divide_l11 : type_of% f_lease_Divide_l11.eq_1 := by_rfl f_lease_Divide_l11.eq_1
theorem e_lease_Divide_r12 : type_of% f_lease_Divide_r12.eq_1 := by_rfl f_lease_Divide_r12.eq_1
theorem e_lease_Divide_r13 : type_of% f_lease_Divide_r13.eq_1 := by_rfl f_lease_Divide_r13.eq_1
theorem e_lease_Divide_r14 : type_of% f_lease_Divide_r14.eq_1 := by_rfl f_lease_Divide_r14.eq_1
theorem e_lease_Divide_r15 : type_of% f_lease_Divide_r15.eq_1 := by_rfl f_lease_Divide_r15.eq_1
theorem e_lease_Divide_r16 : type_of% f_lease_Divide_r16.eq_1 := by_rfl f_lease_Divide_r16.eq_1
theorem e_lease_Divide_r17 : type_of% f_lease_Divide_r17.eq_1 := by_rfl f_lease_Divide_r17.eq_1
theorem e_lease_Divide_r18 : type_of% f_lease_Divide_r18.eq_1 := by_rfl f_lease_Divide_r18.eq_1
theorem e_lease_Divide_r19 : type_of% f_lease_Divide_r19.eq_1 := by_rfl f_lease_Divide_r19.eq_1
theorem e_lease_Divide_r20 : type_of% f_lease_Divide_r20.eq_1 := by_rfl f_lease_Divide_r20.eq_1
theorem e_lease_Divide_l21 : type_of% f_lease_Divide_l21.eq_1 := by_rfl f_lease_Divide_l21.eq_1
theorem e_lease_Divide_r22 : type_of% f_lease_Divide_r22.eq_1 := by_rfl f_lease_Divide_r22.eq_1
theorem e_lease_Divide : type_of% f_lease_Divide.eq_1 := by_rfl f_lease_Divide.eq_1
theorem ok_lease_Divide : fnC Try.prog a_lease_Divide Try.f40 = some f_lease_Divide := by kernel_rfl

/-! 41 fumarole/fumaroleref11.Both -/
def f_ref11_Both_r0 : List Abs.Op := [
  ⟨some 4, none, false, .mv (.c .nils)⟩]

def f_ref11_Both_r1 : List Abs.Op := [
  ⟨some 5, none, false, .nilb 1⟩]

def f_ref11_Both_r2 : List Abs.Op := [
  ⟨some 6, none, false, .mv (.c (.int .i64 0))⟩]

def f_ref11_Both_r3 : List Abs.Op := [
  ⟨some 7, none, false, .mv (.t 6)⟩,
  ⟨some 8, none, false, .mv (.t 0)⟩,
  ⟨some 9, none, false, .lenS (.t 8)⟩,
  ⟨some 10, none, false, .bin .lss (.t 7) (.t 9)⟩]

def f_ref11_Both_r4 : List Abs.Op := [
  ⟨some 13, none, true, .mv (.t 5)⟩,
  ⟨some 14, none, true, .mv (.t 0)⟩,
  ⟨some 15, none, true, .mv (.t 6)⟩,
  ⟨some 16, none, true, .idxS 1 (.t 14) (.t 15)⟩,
  ⟨some 17, none, true, .ld false 1 (.t 16)⟩,
  ⟨some 18, none, true, .mv (.t 1)⟩,
  ⟨some 19, none, true, .mv (.t 6)⟩,
  ⟨some 20, none, true, .idxS 1 (.t 18) (.t 19)⟩,
  ⟨some 21, none, true, .ld false 1 (.t 20)⟩,
  ⟨some 22, none, true, .bin .add (.t 17) (.t 21)⟩,
  ⟨some 23, none, true, .bsi 1 1 [(.int .i64 0)] [(0, 1, (.t 22))]⟩,
  ⟨some 24, none, false, .app 1 8 (.t 13) (.t 23)⟩,
  ⟨some 5, none, false, .mv (.t 24)⟩]

def f_ref11_Both_r5 : List Abs.Op := [
  ⟨some 11, none, false, .mv (.t 6)⟩,
  ⟨some 12, none, false, .bin .add (.t 11) (.c (.int .i64 1))⟩,
  ⟨some 6, none, false, .mv (.t 12)⟩]

def f_ref11_Both_l6 : Abs.Cmd :=
  (.seq (.seq (.reg [0, 1, 5, 6, 10] f_ref11_Both_r3) (.ite (.t 10) .nop (.exit 0))) (.seq (.blk 1 (.reg [0, 1, 5, 6] f_ref11_Both_r4)) (.reg [0, 1, 5, 6] f_ref11_Both_r5)))

def f_ref11_Both_r7 : List Abs.Op := [
  ⟨some 25, none, false, .mv (.t 5)⟩,
  ⟨some 4, none, false, .mv (.t 25)⟩]

def a_ref11_Both : Ann := ⟨[(6, [4]), (4, [0, 1, 5, 6]), (5, [0, 1, 5, 6]), (3, [0, 1, 5, 6, 10]), (2, [0, 1, 5, 6]), (1, [0, 1, 5]), (0, [0, 1])], [(0, [0, 1, 5, 6])], [], [5], [], [], [], [], [], []⟩
def f_ref11_Both : Abs.Fn := ⟨2, [.t 4],
  (.seq (.reg [0, 1] f_ref11_Both_r0) (.seq (.reg [0, 1, 5] f_ref11_Both_r1) (.seq (.seq (.reg [0, 1, 5, 6] f_ref11_Both_r2) (.blk 0 (.loop [0, 1, 5, 6] false f_ref11_Both_l6))) (.seq (.reg [4] f_ref11_Both_r7) .ret))))⟩

theorem e_ref11_Both_r0 : type_of% f_ref11_Both_r0.eq_1 := by_rfl f_ref11_Both_r0.eq_1
theorem e_ref11_Both_r1 : type_of% f_ref11_Both_r1.eq_1 := by_rfl f_ref11_Both_r1.eq_1
theorem e_ref11_Both_r2 : type_of% f_ref11_Both_r2.eq_1 := by_rfl f_ref11_Both_r2.eq_1
theorem e_ref11_Both_r3 : type_of% f_ref11_Both_r3.eq_1 := by_rfl f_ref11_Both_r3.eq_1
theorem e_ref11_Both_r4 : type_of% f_ref11_Both_r4.eq_1 := by_rfl f_ref11_Both_r4.eq_1
theorem e_ref11_Both_r5 : type_of% f_ref11_Both_r5.eq_1 := by_rfl f_ref11_Both_r5.eq_1
theorem e_ref11_Both_l6 : type_of% f_ref11_Both_l6.eq_1 := by_rfl f_ref11_Both_l6.eq_1
theorem e_ref11_Both_r7 : type_of% f_ref11_Both_r7.eq_1 := by_rfl f_ref11_Both_r7.eq_1
theorem e_ref11_Both : type_of% f_ref11_Both.eq_1 := by_rfl f_ref11_Both.eq_1
theorem ok_ref11_Both : fnC Try.prog a_ref11_Both Try.f41 = some f_ref11_Both := by kernel_rfl

/-! 42 fumarole/lease.Due -/
def f_lease_Due_r0 : List Abs.Op := [
  ⟨some 2, none, false, .boxi (.t 0)⟩,
  ⟨some 4, none, false, .mv (.c .nils)⟩,
  ⟨some 5, none, false, .mv (.c (.int .i64 0))⟩,
  ⟨some 6, none, false, .mv (.c (.int .i64 0))⟩]

def f_lease_Due_r1 : List Abs.Op := [
  ⟨some 8, none, false, .ld true 2 (.t 2)⟩,
  ⟨some 9, none, false, .call false (.c (.fn i_lease_Concession_valid [] [])) [(.t 8)]⟩,
  ⟨some 10, none, false, .un .not (.t 9)⟩,
  ⟨some 7, none, false, .mv (.t 10)⟩]

def f_lease_Due_r2 : List Abs.Op := [
  ⟨some 4, none, false, .mv (.c .nils)⟩,
  ⟨some 5, none, false, .mv (.c (.int .i64 0))⟩,
  ⟨some 6, none, false, .mv (.c (.int .i64 1))⟩]

def f_lease_Due_r3 : List Abs.Op := [
  ⟨some 12, none, false, .ld true 2 (.t 2)⟩,
  ⟨some 13, none, false, .mv (.t 1)⟩,
  ⟨some 14, none, false, .call false (.c (.fn i_lease_Concession_masses [] [])) [(.t 12), (.t 13)]⟩,
  ⟨some 15, none, false, .un .not (.t 14)⟩,
  ⟨some 11, none, false, .mv (.t 15)⟩]

def f_lease_Due_r4 : List Abs.Op := [
  ⟨some 4, none, false, .mv (.c .nils)⟩,
  ⟨some 5, none, false, .mv (.c (.int .i64 0))⟩,
  ⟨some 6, none, false, .mv (.c (.int .i64 2))⟩]

def f_lease_Due_r5 : List Abs.Op := [
  ⟨some 17, none, false, .ld true 2 (.t 2)⟩,
  ⟨some 18, none, false, .mv (.t 1)⟩,
  ⟨some 19, none, false, .call false (.c (.fn i_lease_Concession_due [] [])) [(.t 17), (.t 18)]⟩,
  ⟨some 16, none, false, .mv (.t 19)⟩,
  ⟨some 20, none, false, .ext (.t 16) 0⟩,
  ⟨some 21, none, false, .ext (.t 16) 1⟩,
  ⟨some 4, none, false, .mv (.t 20)⟩,
  ⟨some 5, none, false, .mv (.t 21)⟩]

def f_lease_Due_r6 : List Abs.Op := [
  ⟨some 22, none, false, .mv (.t 4)⟩,
  ⟨some 23, none, false, .mv (.t 5)⟩,
  ⟨some 4, none, false, .mv (.t 22)⟩,
  ⟨some 5, none, false, .mv (.t 23)⟩,
  ⟨some 6, none, false, .mv (.c (.int .i64 0))⟩]

def a_lease_Due : Ann := ⟨[(6, [4, 5, 6]), (5, [4, 5]), (2, [4, 5, 6]), (4, [4, 5, 6]), (3, [1, 2, 11]), (1, [1, 2, 7]), (0, [1, 2])], [], [], [], [], [], [], [], [], []⟩
def f_lease_Due : Abs.Fn := ⟨2, [.t 4, .t 5, .t 6],
  (.seq (.reg [1, 2] f_lease_Due_r0) (.seq (.blk 0 (.seq (.reg [1, 2, 7] f_lease_Due_r1) (.ite (.t 7) (.seq (.reg [4, 5, 6] f_lease_Due_r2) .ret) (.seq (.reg [1, 2, 11] f_lease_Due_r3) (.ite (.t 11) (.seq (.reg [4, 5, 6] f_lease_Due_r4) .ret) .nop))))) (.seq (.reg [4, 5] f_lease_Due_r5) (.seq (.reg [4, 5, 6] f_lease_Due_r6) .ret))))⟩

theorem e_lease_Due_r0 : type_of% f_lease_Due_r0.eq_1 := by_rfl f_lease_Due_r0.eq_1
theorem e_lease_Due_r1 : type_of% f_lease_Due_r1.eq_1 := by_rfl f_lease_Due_r1.eq_1
theorem e_lease_Due_r2 : type_of% f_lease_Due_r2.eq_1 := by_rfl f_lease_Due_r2.eq_1
theorem e_lease_Due_r3 : type_of% f_lease_Due_r3.eq_1 := by_rfl f_lease_Due_r3.eq_1
theorem e_lease_Due_r4 : type_of% f_lease_Due_r4.eq_1 := by_rfl f_lease_Due_r4.eq_1
theorem e_lease_Due_r5 : type_of% f_lease_Due_r5.eq_1 := by_rfl f_lease_Due_r5.eq_1
theorem e_lease_Due_r6 : type_of% f_lease_Due_r6.eq_1 := by_rfl f_lease_Due_r6.eq_1
theorem e_lease_Due : type_of% f_lease_Due.eq_1 := by_rfl f_lease_Due.eq_1
theorem ok_lease_Due : fnC Try.prog a_lease_Due Try.f42 = some f_lease_Due := by kernel_rfl

/-! 43 fumarole/fumarolelaw11.tracts -/
def f_law11_tracts_r0 : List Abs.Op := [
  ⟨some 0, none, false, .alcv [] [(.int .i64 0), .nils]⟩]

def f_law11_tracts_r1 : List Abs.Op := [
  ⟨some 1, none, false, .bsi 3 1 [(.int .i64 0), (.int .i64 0), (.int .i64 0)] [(0, 1, (.c (.int .i64 333))), (1, 1, (.c (.int .i64 667))), (2, 1, (.c (.int .i64 0)))]⟩,
  ⟨some 2, none, false, .bsi 3 1 [(.int .i64 0), (.int .i64 0), (.int .i64 0)] [(0, 1, (.c (.int .i64 500))), (1, 1, (.c (.int .i64 0))), (2, 1, (.c (.int .i64 250)))]⟩,
  ⟨some 3, none, false, .bsi 2 1 [.nils, .nils] [(0, 1, (.t 1)), (1, 1, (.t 2))]⟩,
  ⟨some 4, none, false, .bld [(.int .i64 0), .nils] [(0, 1, (.c (.int .i64 3))), (1, 1, (.t 3))]⟩,
  ⟨none, none, false, .stv 0 [] 2 0 (.t 4)⟩]

def a_law11_tracts : Ann := ⟨[(1, [0]), (0, [0])], [], [], [0], [0], [], [], [], [], []⟩
def f_law11_tracts : Abs.Fn := ⟨0, [.v 0 true 2],
  (.seq (.reg [0] f_law11_tracts_r0) (.seq (.reg [0] f_law11_tracts_r1) .ret))⟩

theorem e_law11_tracts_r0 : type_of% f_law11_tracts_r0.eq_1 := by_rfl f_law11_tracts_r0.eq_1
theorem e_law11_tracts_r1 : type_of% f_law11_tracts_r1.eq_1 := by_rfl f_law11_tracts_r1.eq_1
theorem e_law11_tracts : type_of% f_law11_tracts.eq_1 := by_rfl f_law11_tracts.eq_1
theorem ok_law11_tracts : fnC Try.prog a_law11_tracts Try.f43 = some f_law11_tracts := by kernel_rfl

/-! 44 fumarole/fumarolelaw11.pool -/
def f_law11_pool_r0 : List Abs.Op := [
  ⟨some 0, none, false, .mv (.c .nils)⟩]

def f_law11_pool_r1 : List Abs.Op := [
  ⟨some 1, none, false, .bld [(.int .i64 0), (.int .i64 0)] [(0, 1, (.c (.int .i64 100))), (1, 1, (.c (.int .i64 200)))]⟩,
  ⟨some 2, none, false, .bld [(.int .i64 0), (.int .i64 0)] [(1, 1, (.c (.int .i64 50)))]⟩,
  ⟨some 3, none, false, .bsi 2 2 [(.int .i64 0), (.int .i64 0), (.int .i64 0), (.int .i64 0)] [(0, 2, (.t 1)), (2, 2, (.t 2))]⟩,
  ⟨some 4, none, false, .bld [(.int .i64 0), (.int .i64 0), .nils] [(0, 1, (.c (.int .i64 10))), (1, 1, (.c (.int .i64 8))), (2, 1, (.t 3))]⟩,
  ⟨some 5, none, false, .bsi 1 3 [(.int .i64 0), (.int .i64 0), .nils] [(0, 3, (.t 4))]⟩,
  ⟨some 0, none, false, .mv (.t 5)⟩]

def a_law11_pool : Ann := ⟨[(1, [0]), (0, [])], [], [], [], [], [], [], [], [], []⟩
def f_law11_pool : Abs.Fn := ⟨0, [.t 0],
  (.seq (.reg [] f_law11_pool_r0) (.seq (.reg [0] f_law11_pool_r1) .ret))⟩

theorem e_law11_pool_r0 : type_of% f_law11_pool_r0.eq_1 := by_rfl f_law11_pool_r0.eq_1
theorem e_law11_pool_r1 : type_of% f_law11_pool_r1.eq_1 := by_rfl f_law11_pool_r1.eq_1
theorem e_law11_pool : type_of% f_law11_pool.eq_1 := by_rfl f_law11_pool.eq_1
theorem ok_law11_pool : fnC Try.prog a_law11_pool Try.f44 = some f_law11_pool := by kernel_rfl

/-! 45 fumarole/fumarolelaw11.drilled -/
def f_law11_drilled_r0 : List Abs.Op := [
  ⟨some 0, none, false, .alcv [] [(.int .i64 0), (.int .i64 0), (.int .i64 0), (.int .i64 0), .nils]⟩]

def f_law11_drilled_r1 : List Abs.Op := [
  ⟨some 1, none, false, .bld [(.int .i64 0), (.int .i64 0)] [(0, 1, (.c (.int .i64 12))), (1, 1, (.c (.int .i64 5)))]⟩,
  ⟨some 2, none, false, .bld [(.int .i64 0), (.int .i64 0)] [(0, 1, (.c (.int .i64 14))), (1, 1, (.c (.int .i64 4)))]⟩,
  ⟨some 3, none, false, .bld [(.int .i64 0), (.int .i64 0)] [(0, 1, (.c (.int .i64 15))), (1, 1, (.c (.int .i64 9)))]⟩,
  ⟨some 4, none, false, .bsi 3 2 [(.int .i64 0), (.int .i64 0), (.int .i64 0), (.int .i64 0), (.int .i64 0), (.int .i64 0)] [(0, 2, (.t 1)), (2, 2, (.t 2)), (4, 2, (.t 3))]⟩,
  ⟨some 5, none, false, .bld [(.int .i64 0), (.int .i64 0), (.int .i64 0), (.int .i64 0), .nils] [(0, 1, (.c (.int .i64 10))), (1, 1, (.c (.int .i64 6))), (2, 1, (.c (.int .i64 900))), (3, 1, (.c (.int .i64 2))), (4, 1, (.t 4))]⟩,
  ⟨none, none, false, .stv 0 [] 5 0 (.t 5)⟩]

def a_law11_drilled : Ann := ⟨[(1, [0]), (0, [0])], [], [], [0], [0], [], [], [], [], []⟩
def f_law11_drilled : Abs.Fn := ⟨0, [.v 0 true 5],
  (.seq (.reg [0] f_law11_drilled_r0) (.seq (.reg [0] f_law11_drilled_r1) .ret))⟩

theorem e_law11_drilled_r0 : type_of% f_law11_drilled_r0.eq_1 := by_rfl f_law11_drilled_r0.eq_1
theorem e_law11_drilled_r1 : type_of% f_law11_drilled_r1.eq_1 := by_rfl f_law11_drilled_r1.eq_1
theorem e_law11_drilled : type_of% f_law11_drilled.eq_1 := by_rfl f_law11_drilled.eq_1
theorem ok_law11_drilled : fnC Try.prog a_law11_drilled Try.f45 = some f_law11_drilled := by kernel_rfl

/-! 46 fumarole/lease.total -/
def f_lease_total_r0 : List Abs.Op := [
  ⟨some 2, none, false, .mv (.c (.bool false))⟩]

def f_lease_total_r1 : List Abs.Op := [
  ⟨some 3, none, false, .mv (.t 0)⟩,
  ⟨some 4, none, false, .call false (.c (.fn i_lease_within [] [])) [(.t 3), (.c (.int .i64 0)), (.c (.int .i64 1000000000000))]⟩,
  ⟨some 2, none, false, .mv (.t 4)⟩]

def a_lease_total : Ann := ⟨[(1, [2]), (0, [0])], [], [], [], [], [], [], [], [], []⟩
def f_lease_total : Abs.Fn := ⟨1, [.t 2],
  (.seq (.reg [0] f_lease_total_r0) (.seq (.reg [2] f_lease_total_r1) .ret))⟩

theorem e_lease_total_r0 : type_of% f_lease_total_r0.eq_1 := by_rfl f_lease_total_r0.eq_1
theorem e_lease_total_r1 : type_of% f_lease_total_r1.eq_1 := by_rfl f_lease_total_r1.eq_1
theorem e_lease_total : type_of% f_lease_total.eq_1 := by_rfl f_lease_total.eq_1
theorem ok_lease_total : fnC Try.prog a_lease_total Try.f46 = some f_lease_total := by kernel_rfl

/-! 47 fumarole/lease.within -/
def f_lease_within_r0 : List Abs.Op := [
  ⟨some 6, none, false, .mv (.c (.bool false))⟩]

def f_lease_within_r1 : List Abs.Op := [
  ⟨some 7, none, false, .mv (.t 1)⟩,
  ⟨some 8, none, false, .mv (.t 0)⟩,
  ⟨some 9, none, false, .bin .leq (.t 7) (.t 8)⟩,
  ⟨some 10, none, false, .mv (.t 9)⟩,
  ⟨some 11, some (10, true), false, .mv (.t 0)⟩,
  ⟨some 12, some (10, true), false, .mv (.t 2)⟩,
  ⟨some 13, some (10, true), false, .bin .leq (.t 11) (.t 12)⟩,
  ⟨some 14, none, false, .pick (.t 10) (.t 13) (.c (.bool false))⟩,
  ⟨some 6, none, false, .mv (.t 14)⟩]

def a_lease_within : Ann := ⟨[(1, [6]), (0, [0, 1, 2])], [], [], [], [], [], [], [], [], []⟩
def f_lease_within : Abs.Fn := ⟨3, [.t 6],
  (.seq (.reg [0, 1, 2] f_lease_within_r0) (.seq (.reg [6] f_lease_within_r1) .ret))⟩

theorem e_lease_within_r0 : type_of% f_lease_within_r0.eq_1 := by_rfl f_lease_within_r0.eq_1
theorem e_lease_within_r1 : type_of% f_lease_within_r1.eq_1 := by_rfl f_lease_within_r1.eq_1
theorem e_lease_within : type_of% f_lease_within.eq_1 := by_rfl f_lease_within.eq_1
theorem ok_lease_within : fnC Try.prog a_lease_within Try.f47 = some f_lease_within := by kernel_rfl

/-! 48 fumarole/lease.all[int] -/
def f_lease_all_int_r0 : List Abs.Op := [
  ⟨some 3, none, false, .boxi (.t 1)⟩,
  ⟨some 4, none, false, .mv (.c (.bool false))⟩]

def f_lease_all_int_r1 : List Abs.Op := [
  ⟨some 5, none, false, .mv (.t 0)⟩,
  ⟨some 6, none, false, .mkf i_lease_all_int_1 [] [(.t 3)]⟩,
  ⟨some 7, none, false, .call false (.c (.fn i_slices_ContainsFunc_int [] [])) [(.t 5), (.t 6)]⟩,
  ⟨some 8, none, false, .un .not (.t 7)⟩,
  ⟨some 4, none, false, .mv (.t 8)⟩]

def a_lease_all_int : Ann := ⟨[(1, [4]), (0, [0, 3])], [], [], [], [], [], [], [], [], []⟩
def f_lease_all_int : Abs.Fn := ⟨2, [.t 4],
  (.seq (.reg [0, 3] f_lease_all_int_r0) (.seq (.reg [4] f_lease_all_int_r1) .ret))⟩

theorem e_lease_all_int_r0 : type_of% f_lease_all_int_r0.eq_1 := by_rfl f_lease_all_int_r0.eq_1
theorem e_lease_all_int_r1 : type_of% f_lease_all_int_r1.eq_1 := by_rfl f_lease_all_int_r1.eq_1
theorem e_lease_all_int : type_of% f_lease_all_int.eq_1 := by_rfl f_lease_all_int.eq_1
theorem ok_lease_all_int : fnC Try.prog a_lease_all_int Try.f48 = some f_lease_all_int := by kernel_rfl

/-! 49 fumarole/lease.sum -/
def f_lease_sum_r0 : List Abs.Op := [
  ⟨some 2, none, false, .mv (.c (.int .i64 0))⟩]

def f_lease_sum_r1 : List Abs.Op := [
  ⟨some 5, none, false, .mv (.t 0)⟩,
  ⟨some 6, none, false, .lenS (.t 5)⟩,
  ⟨some 7, none, false, .mv (.c (.int .i64 0))⟩]

def f_lease_sum_r2 : List Abs.Op := [
  ⟨some 8, none, false, .bin .lss (.t 7) (.t 6)⟩]

def f_lease_sum_r3 : List Abs.Op := [
  ⟨some 9, none, false, .idxS 1 (.t 5) (.t 7)⟩,
  ⟨some 10, none, false, .ld false 1 (.t 9)⟩,
  ⟨some 4, none, false, .mv (.t 10)⟩]

def f_lease_sum_r4 : List Abs.Op := [
  ⟨some 11, none, false, .mv (.t 2)⟩,
  ⟨some 12, none, false, .mv (.t 4)⟩,
  ⟨some 13, none, false, .bin .add (.t 11) (.t 12)⟩,
  ⟨some 2, none, false, .mv (.t 13)⟩]

def f_lease_sum_r5 : List Abs.Op := [
  ⟨some 14, none, false, .bin .add (.t 7) (.c (.int .i64 1))⟩,
  ⟨some 7, none, false, .mv (.t 14)⟩]

def f_lease_sum_l6 : Abs.Cmd :=
  (.seq (.reg [2, 5, 6, 7, 8] f_lease_sum_r2) (.seq (.ite (.t 8) .nop (.exit 0)) (.seq (.blk 1 (.seq (.reg [2, 4, 5, 6, 7] f_lease_sum_r3) (.reg [2, 5, 6, 7] f_lease_sum_r4))) (.reg [2, 5, 6, 7] f_lease_sum_r5))))

def f_lease_sum_r7 : List Abs.Op := [
  ⟨some 15, none, false, .mv (.t 2)⟩,
  ⟨some 2, none, false, .mv (.t 15)⟩]

def a_lease_sum : Ann := ⟨[(6, [2]), (5, [2, 5, 6, 7]), (4, [2, 5, 6, 7]), (3, [2, 4, 5, 6, 7]), (2, [2, 5, 6, 7, 8]), (1, [2, 5, 6, 7]), (0, [0, 2])], [(0, [2, 5, 6, 7])], [], [], [], [], [], [], [], []⟩
def f_lease_sum : Abs.Fn := ⟨1, [.t 2],
  (.seq (.reg [0, 2] f_lease_sum_r0) (.seq (.seq (.reg [2, 5, 6, 7] f_lease_sum_r1) (.blk 0 (.loop [2, 5, 6, 7] false f_lease_sum_l6))) (.seq (.reg [2] f_lease_sum_r7) .ret)))⟩

theorem e_lease_sum_r0 : type_of% f_lease_sum_r0.eq_1 := by_rfl f_lease_sum_r0.eq_1
theorem e_lease_sum_r1 : type_of% f_lease_sum_r1.eq_1 := by_rfl f_lease_sum_r1.eq_1
theorem e_lease_sum_r2 : type_of% f_lease_sum_r2.eq_1 := by_rfl f_lease_sum_r2.eq_1
theorem e_lease_sum_r3 : type_of% f_lease_sum_r3.eq_1 := by_rfl f_lease_sum_r3.eq_1
theorem e_lease_sum_r4 : type_of% f_lease_sum_r4.eq_1 := by_rfl f_lease_sum_r4.eq_1
theorem e_lease_sum_r5 : type_of% f_lease_sum_r5.eq_1 := by_rfl f_lease_sum_r5.eq_1
theorem e_lease_sum_l6 : type_of% f_lease_sum_l6.eq_1 := by_rfl f_lease_sum_l6.eq_1
theorem e_lease_sum_r7 : type_of% f_lease_sum_r7.eq_1 := by_rfl f_lease_sum_r7.eq_1
theorem e_lease_sum : type_of% f_lease_sum.eq_1 := by_rfl f_lease_sum.eq_1
theorem ok_lease_sum : fnC Try.prog a_lease_sum Try.f49 = some f_lease_sum := by kernel_rfl

/-! 50 fumarole/lease.part -/
def f_lease_part_r0 : List Abs.Op := [
  ⟨some 6, none, false, .alcv [] [(.int .i64 0), (.int .i64 0)]⟩]

def f_lease_part_r1 : List Abs.Op := [
  ⟨some 7, none, false, .mv (.c (.int .i64 39))⟩]

def f_lease_part_r2 : List Abs.Op := [
  ⟨some 8, none, false, .mv (.t 7)⟩,
  ⟨some 9, none, false, .bin .geq (.t 8) (.c (.int .i64 0))⟩]

def f_lease_part_r3 : List Abs.Op := [
  ⟨some 12, none, false, .fadr 0 (.t 6)⟩,
  ⟨some 13, none, false, .ldv 6 false 1 12⟩,
  ⟨some 14, none, false, .bin .mul (.c (.int .i64 2)) (.t 13)⟩,
  ⟨some 15, none, false, .fadr 1 (.t 6)⟩,
  ⟨some 16, none, false, .ldv 6 false 1 15⟩,
  ⟨some 17, none, false, .bin .mul (.c (.int .i64 2)) (.t 16)⟩,
  ⟨some 18, none, false, .fadr 0 (.t 6)⟩,
  ⟨none, none, false, .stv 6 [] 1 18 (.t 14)⟩,
  ⟨some 19, none, false, .fadr 1 (.t 6)⟩,
  ⟨none, none, false, .stv 6 [] 1 19 (.t 17)⟩]

def f_lease_part_r4 : List Abs.Op := [
  ⟨some 20, none, false, .mv (.t 0)⟩,
  ⟨some 21, none, false, .mv (.t 7)⟩,
  ⟨some 22, none, false, .bin .shr (.t 20) (.t 21)⟩,
  ⟨some 23, none, false, .bin .and (.t 22) (.c (.int .i64 1))⟩,
  ⟨some 24, none, false, .bin .eql (.t 23) (.c (.int .i64 1))⟩]

def f_lease_part_r5 : List Abs.Op := [
  ⟨some 25, none, false, .fadr 1 (.t 6)⟩,
  ⟨some 26, none, false, .ldv 6 false 1 25⟩,
  ⟨some 27, none, false, .mv (.t 1)⟩,
  ⟨some 28, none, false, .bin .add (.t 26) (.t 27)⟩,
  ⟨some 29, none, false, .fadr 1 (.t 6)⟩,
  ⟨none, none, false, .stv 6 [] 1 29 (.t 28)⟩]

def f_lease_part_r6 : List Abs.Op := [
  ⟨some 30, none, true, .fadr 0 (.t 6)⟩,
  ⟨some 31, none, true, .ldv 6 false 1 30⟩,
  ⟨some 32, none, true, .fadr 1 (.t 6)⟩,
  ⟨some 33, none, true, .ldv 6 false 1 32⟩,
  ⟨some 34, none, true, .mv (.t 2)⟩,
  ⟨some 35, none, true, .bin .quo (.t 33) (.t 34)⟩,
  ⟨some 36, none, false, .bin .add (.t 31) (.t 35)⟩,
  ⟨some 37, none, false, .fadr 0 (.t 6)⟩,
  ⟨none, none, false, .stv 6 [] 1 37 (.t 36)⟩]

def f_lease_part_r7 : List Abs.Op := [
  ⟨some 38, none, false, .fadr 1 (.t 6)⟩,
  ⟨some 39, none, false, .ldv 6 false 1 38⟩,
  ⟨some 40, none, false, .mv (.t 2)⟩,
  ⟨some 41, none, false, .bin .rem (.t 39) (.t 40)⟩,
  ⟨some 42, none, false, .fadr 1 (.t 6)⟩,
  ⟨none, none, false, .stv 6 [] 1 42 (.t 41)⟩]

def f_lease_part_r8 : List Abs.Op := [
  ⟨some 10, none, false, .mv (.t 7)⟩,
  ⟨some 11, none, false, .bin .sub (.t 10) (.c (.int .i64 1))⟩,
  ⟨some 7, none, false, .mv (.t 11)⟩]

def f_lease_part_l9 : Abs.Cmd :=
  (.seq (.seq (.reg [0, 1, 2, 6, 7, 9] f_lease_part_r2) (.ite (.t 9) .nop (.exit 0))) (.seq (.blk 1 (.seq (.reg [0, 1, 2, 6, 7] f_lease_part_r3) (.seq (.seq (.reg [0, 1, 2, 6, 7, 24] f_lease_part_r4) (.ite (.t 24) (.reg [0, 1, 2, 6, 7] f_lease_part_r5) .nop)) (.seq (.reg [0, 1, 2, 6, 7] f_lease_part_r6) (.reg [0, 1, 2, 6, 7] f_lease_part_r7))))) (.reg [0, 1, 2, 6, 7] f_lease_part_r8)))

def f_lease_part_r10 : List Abs.Op := [
  ⟨some 43, none, false, .ldv 6 true 2 6⟩,
  ⟨none, none, false, .stv 6 [] 2 6 (.t 43)⟩]

def a_lease_part : Ann := ⟨[(9, [6]), (3, [0, 1, 2, 6, 7]), (8, [0, 1, 2, 6, 7]), (7, [0, 1, 2, 6, 7]), (6, [0, 1, 2, 6, 7]), (5, [0, 1, 2, 6, 7, 24]), (4, [0, 1, 2, 6, 7]), (2, [0, 1, 2, 6, 7, 9]), (1, [0, 1, 2, 6, 7]), (0, [0, 1, 2, 6])], [(0, [0, 1, 2, 6, 7])], [], [6], [6], [], [], [], [], []⟩
def f_lease_part : Abs.Fn := ⟨3, [.v 6 true 2],
  (.seq (.reg [0, 1, 2, 6] f_lease_part_r0) (.seq (.seq (.reg [0, 1, 2, 6, 7] f_lease_part_r1) (.blk 0 (.loop [0, 1, 2, 6, 7] false f_lease_part_l9))) (.seq (.reg [6] f_lease_part_r10) .ret)))⟩

theorem e_lease_part_r0 : type_of% f_lease_part_r0.eq_1 := by_rfl f_lease_part_r0.eq_1
theorem e_lease_part_r1 : type_of% f_lease_part_r1.eq_1 := by_rfl f_lease_part_r1.eq_1
theorem e_lease_part_r2 : type_of% f_lease_part_r2.eq_1 := by_rfl f_lease_part_r2.eq_1
theorem e_lease_part_r3 : type_of% f_lease_part_r3.eq_1 := by_rfl f_lease_part_r3.eq_1
theorem e_lease_part_r4 : type_of% f_lease_part_r4.eq_1 := by_rfl f_lease_part_r4.eq_1
theorem e_lease_part_r5 : type_of% f_lease_part_r5.eq_1 := by_rfl f_lease_part_r5.eq_1
theorem e_lease_part_r6 : type_of% f_lease_part_r6.eq_1 := by_rfl f_lease_part_r6.eq_1
theorem e_lease_part_r7 : type_of% f_lease_part_r7.eq_1 := by_rfl f_lease_part_r7.eq_1
theorem e_lease_part_r8 : type_of% f_lease_part_r8.eq_1 := by_rfl f_lease_part_r8.eq_1
theorem e_lease_part_l9 : type_of% f_lease_part_l9.eq_1 := by_rfl f_lease_part_l9.eq_1
theorem e_lease_part_r10 : type_of% f_lease_part_r10.eq_1 := by_rfl f_lease_part_r10.eq_1
theorem e_lease_part : type_of% f_lease_part.eq_1 := by_rfl f_lease_part.eq_1
theorem ok_lease_part : fnC Try.prog a_lease_part Try.f50 = some f_lease_part := by kernel_rfl

/-! 51 fumarole/lease.ranked[fumarole/lease.portion] -/
def f_lease_ranked_lease_portion_r0 : List Abs.Op := [
  ⟨some 2, none, false, .boxi (.t 0)⟩,
  ⟨some 3, none, false, .boxi (.t 1)⟩,
  ⟨some 4, none, false, .mv (.c .nils)⟩]

def f_lease_ranked_lease_portion_r1 : List Abs.Op := [
  ⟨some 5, none, false, .nilb 1⟩]

def f_lease_ranked_lease_portion_r2 : List Abs.Op := [
  ⟨some 7, none, false, .ld false 1 (.t 2)⟩,
  ⟨some 8, none, false, .lenS (.t 7)⟩,
  ⟨some 9, none, false, .mv (.c (.int .i64 0))⟩]

def f_lease_ranked_lease_portion_r3 : List Abs.Op := [
  ⟨some 10, none, false, .bin .lss (.t 9) (.t 8)⟩]

def f_lease_ranked_lease_portion_r4 : List Abs.Op := [
  ⟨some 11, none, false, .mv (.t 9)⟩,
  ⟨some 6, none, false, .mv (.t 11)⟩]

def f_lease_ranked_lease_portion_r5 : List Abs.Op := [
  ⟨some 12, none, false, .mv (.t 5)⟩,
  ⟨some 13, none, false, .mv (.t 6)⟩,
  ⟨some 14, none, false, .bsi 1 1 [(.int .i64 0)] [(0, 1, (.t 13))]⟩,
  ⟨some 15, none, false, .app 1 8 (.t 12) (.t 14)⟩,
  ⟨some 5, none, false, .mv (.t 15)⟩]

def f_lease_ranked_lease_portion_r6 : List Abs.Op := [
  ⟨some 16, none, false, .bin .add (.t 9) (.c (.int .i64 1))⟩,
  ⟨some 9, none, false, .mv (.t 16)⟩]

def f_lease_ranked_lease_portion_l7 : Abs.Cmd :=
  (.seq (.reg [2, 3, 5, 8, 9, 10] f_lease_ranked_lease_portion_r3) (.seq (.ite (.t 10) .nop (.exit 0)) (.seq (.blk 1 (.seq (.reg [2, 3, 5, 6, 8, 9] f_lease_ranked_lease_portion_r4) (.reg [2, 3, 5, 8, 9] f_lease_ranked_lease_portion_r5))) (.reg [2, 3, 5, 8, 9] f_lease_ranked_lease_portion_r6))))

def f_lease_ranked_lease_portion_r8 : List Abs.Op := [
  ⟨some 17, none, false, .mv (.t 5)⟩,
  ⟨some 18, none, false, .mkf i_lease_ranked_lease_portion_1 [] [(.t 3), (.t 2)]⟩,
  ⟨some 19, none, false, .call false (.c (.fn i_slices_SortStableFunc_int [] [])) [(.t 17), (.t 18)]⟩]

def f_lease_ranked_lease_portion_r9 : List Abs.Op := [
  ⟨some 20, none, false, .mv (.t 5)⟩,
  ⟨some 4, none, false, .mv (.t 20)⟩]

def a_lease_ranked_lease_portion : Ann := ⟨[(8, [4]), (7, [5]), (6, [2, 3, 5, 8, 9]), (5, [2, 3, 5, 8, 9]), (4, [2, 3, 5, 6, 8, 9]), (3, [2, 3, 5, 8, 9, 10]), (2, [2, 3, 5, 8, 9]), (1, [2, 3, 5]), (0, [2, 3])], [(0, [2, 3, 5, 8, 9])], [], [5], [], [], [], [], [], []⟩
def f_lease_ranked_lease_portion : Abs.Fn := ⟨2, [.t 4],
  (.seq (.reg [2, 3] f_lease_ranked_lease_portion_r0) (.seq (.reg [2, 3, 5] f_lease_ranked_lease_portion_r1) (.seq (.seq (.reg [2, 3, 5, 8, 9] f_lease_ranked_lease_portion_r2) (.blk 0 (.loop [2, 3, 5, 8, 9] false f_lease_ranked_lease_portion_l7))) (.seq (.reg [5] f_lease_ranked_lease_portion_r8) (.seq (.reg [4] f_lease_ranked_lease_portion_r9) .ret)))))⟩

theorem e_lease_ranked_lease_portion_r0 : type_of% f_lease_ranked_lease_portion_r0.eq_1 := by_rfl f_lease_ranked_lease_portion_r0.eq_1
theorem e_lease_ranked_lease_portion_r1 : type_of% f_lease_ranked_lease_portion_r1.eq_1 := by_rfl f_lease_ranked_lease_portion_r1.eq_1
theorem e_lease_ranked_lease_portion_r2 : type_of% f_lease_ranked_lease_portion_r2.eq_1 := by_rfl f_lease_ranked_lease_portion_r2.eq_1
theorem e_lease_ranked_lease_portion_r3 : type_of% f_lease_ranked_lease_portion_r3.eq_1 := by_rfl f_lease_ranked_lease_portion_r3.eq_1
theorem e_lease_ranked_lease_portion_r4 : type_of% f_lease_ranked_lease_portion_r4.eq_1 := by_rfl f_lease_ranked_lease_portion_r4.eq_1
theorem e_lease_ranked_lease_portion_r5 : type_of% f_lease_ranked_lease_portion_r5.eq_1 := by_rfl f_lease_ranked_lease_portion_r5.eq_1
theorem e_lease_ranked_lease_portion_r6 : type_of% f_lease_ranked_lease_portion_r6.eq_1 := by_rfl f_lease_ranked_lease_portion_r6.eq_1
theorem e_lease_ranked_lease_portion_l7 : type_of% f_lease_ranked_lease_portion_l7.eq_1 := by_rfl f_lease_ranked_lease_portion_l7.eq_1
theorem e_lease_ranked_lease_portion_r8 : type_of% f_lease_ranked_lease_portion_r8.eq_1 := by_rfl f_lease_ranked_lease_portion_r8.eq_1
theorem e_lease_ranked_lease_portion_r9 : type_of% f_lease_ranked_lease_portion_r9.eq_1 := by_rfl f_lease_ranked_lease_portion_r9.eq_1
theorem e_lease_ranked_lease_portion : type_of% f_lease_ranked_lease_portion.eq_1 := by_rfl f_lease_ranked_lease_portion.eq_1
theorem ok_lease_ranked_lease_portion : fnC Try.prog a_lease_ranked_lease_portion Try.f51 = some f_lease_ranked_lease_portion := by kernel_rfl

/-! 52 fumarole/lease.Split$1 -/
def f_lease_Split_1_r0 : List Abs.Op := [
  ⟨some 1, none, false, .boxi (.t 0)⟩,
  ⟨some 2, none, false, .mv (.c (.int .i64 0))⟩]

def f_lease_Split_1_r1 : List Abs.Op := [
  ⟨some 3, none, false, .fadr 1 (.t 1)⟩,
  ⟨some 4, none, false, .ld false 1 (.t 3)⟩,
  ⟨some 2, none, false, .mv (.t 4)⟩]

def a_lease_Split_1 : Ann := ⟨[(1, [2]), (0, [1])], [], [], [], [], [], [], [], [], []⟩
def f_lease_Split_1 : Abs.Fn := ⟨1, [.t 2],
  (.seq (.reg [1] f_lease_Split_1_r0) (.seq (.reg [2] f_lease_Split_1_r1) .ret))⟩

theorem e_lease_Split_1_r0 : type_of% f_lease_Split_1_r0.eq_1 := by_rfl f_lease_Split_1_r0.eq_1
theorem e_lease_Split_1_r1 : type_of% f_lease_Split_1_r1.eq_1 := by_rfl f_lease_Split_1_r1.eq_1
theorem e_lease_Split_1 : type_of% f_lease_Split_1.eq_1 := by_rfl f_lease_Split_1.eq_1
theorem ok_lease_Split_1 : fnC Try.prog a_lease_Split_1 Try.f52 = some f_lease_Split_1 := by kernel_rfl

/-! 53 fumarole/fumaroleref11.part -/
def f_ref11_part_r0 : List Abs.Op := [
  ⟨some 6, none, false, .mv (.c (.int .i64 0))⟩,
  ⟨some 7, none, false, .mv (.c (.int .i64 0))⟩]

def f_ref11_part_r1 : List Abs.Op := [
  ⟨some 8, none, false, .mv (.c (.int .i64 0))⟩,
  ⟨some 9, none, false, .mv (.c (.int .i64 0))⟩]

def f_ref11_part_r2 : List Abs.Op := [
  ⟨some 10, none, false, .mv (.c (.int .i64 40))⟩]

def f_ref11_part_r3 : List Abs.Op := [
  ⟨some 11, none, false, .mv (.t 10)⟩,
  ⟨some 12, none, false, .bin .geq (.t 11) (.c (.int .i64 0))⟩]

def f_ref11_part_r4 : List Abs.Op := [
  ⟨some 15, none, false, .mv (.t 8)⟩,
  ⟨some 16, none, false, .bin .mul (.c (.int .i64 2)) (.t 15)⟩,
  ⟨some 17, none, false, .mv (.t 9)⟩,
  ⟨some 18, none, false, .bin .mul (.c (.int .i64 2)) (.t 17)⟩,
  ⟨some 8, none, false, .mv (.t 16)⟩,
  ⟨some 9, none, false, .mv (.t 18)⟩]

def f_ref11_part_r5 : List Abs.Op := [
  ⟨some 19, none, false, .mv (.t 0)⟩,
  ⟨some 20, none, false, .mv (.t 10)⟩,
  ⟨some 21, none, false, .cvt .u64 (.t 20)⟩,
  ⟨some 22, none, false, .bin .shr (.t 19) (.t 21)⟩,
  ⟨some 23, none, false, .bin .and (.t 22) (.c (.int .i64 1))⟩,
  ⟨some 24, none, false, .bin .eql (.t 23) (.c (.int .i64 1))⟩]

def f_ref11_part_r6 : List Abs.Op := [
  ⟨some 25, none, false, .mv (.t 9)⟩,
  ⟨some 26, none, false, .mv (.t 1)⟩,
  ⟨some 27, none, false, .bin .add (.t 25) (.t 26)⟩,
  ⟨some 9, none, false, .mv (.t 27)⟩]

def f_ref11_part_r7 : List Abs.Op := [
  ⟨some 28, none, false, .mv (.t 8)⟩,
  ⟨some 29, none, false, .mv (.t 9)⟩,
  ⟨some 30, none, false, .mv (.t 2)⟩,
  ⟨some 31, none, false, .bin .quo (.t 29) (.t 30)⟩,
  ⟨some 32, none, false, .bin .add (.t 28) (.t 31)⟩,
  ⟨some 8, none, false, .mv (.t 32)⟩]

def f_ref11_part_r8 : List Abs.Op := [
  ⟨some 33, none, false, .mv (.t 9)⟩,
  ⟨some 34, none, false, .mv (.t 2)⟩,
  ⟨some 35, none, false, .bin .rem (.t 33) (.t 34)⟩,
  ⟨some 9, none, false, .mv (.t 35)⟩]

def f_ref11_part_r9 : List Abs.Op := [
  ⟨some 13, none, false, .mv (.t 10)⟩,
  ⟨some 14, none, false, .bin .sub (.t 13) (.c (.int .i64 1))⟩,
  ⟨some 10, none, false, .mv (.t 14)⟩]

def f_ref11_part_l10 : Abs.Cmd :=
  (.seq (.seq (.reg [0, 1, 2, 8, 9, 10, 12] f_ref11_part_r3) (.ite (.t 12) .nop (.exit 0))) (.seq (.blk 1 (.seq (.reg [0, 1, 2, 8, 9, 10] f_ref11_part_r4) (.seq (.seq (.reg [0, 1, 2, 8, 9, 10, 24] f_ref11_part_r5) (.ite (.t 24) (.reg [0, 1, 2, 8, 9, 10] f_ref11_part_r6) .nop)) (.seq (.reg [0, 1, 2, 8, 9, 10] f_ref11_part_r7) (.reg [0, 1, 2, 8, 9, 10] f_ref11_part_r8))))) (.reg [0, 1, 2, 8, 9, 10] f_ref11_part_r9)))

def f_ref11_part_r11 : List Abs.Op := [
  ⟨some 36, none, false, .mv (.t 8)⟩,
  ⟨some 37, none, false, .mv (.t 9)⟩,
  ⟨some 6, none, false, .mv (.t 36)⟩,
  ⟨some 7, none, false, .mv (.t 37)⟩]

def a_ref11_part : Ann := ⟨[(10, [6, 7]), (4, [0, 1, 2, 8, 9, 10]), (9, [0, 1, 2, 8, 9, 10]), (8, [0, 1, 2, 8, 9, 10]), (7, [0, 1, 2, 8, 9, 10]), (6, [0, 1, 2, 8, 9, 10, 24]), (5, [0, 1, 2, 8, 9, 10]), (3, [0, 1, 2, 8, 9, 10, 12]), (2, [0, 1, 2, 8, 9, 10]), (1, [0, 1, 2, 8, 9]), (0, [0, 1, 2])], [(0, [0, 1, 2, 8, 9, 10])], [], [], [], [], [], [], [], []⟩
def f_ref11_part : Abs.Fn := ⟨3, [.t 6, .t 7],
  (.seq (.reg [0, 1, 2] f_ref11_part_r0) (.seq (.reg [0, 1, 2, 8, 9] f_ref11_part_r1) (.seq (.seq (.reg [0, 1, 2, 8, 9, 10] f_ref11_part_r2) (.blk 0 (.loop [0, 1, 2, 8, 9, 10] false f_ref11_part_l10))) (.seq (.reg [6, 7] f_ref11_part_r11) .ret))))⟩

theorem e_ref11_part_r0 : type_of% f_ref11_part_r0.eq_1 := by_rfl f_ref11_part_r0.eq_1
theorem e_ref11_part_r1 : type_of% f_ref11_part_r1.eq_1 := by_rfl f_ref11_part_r1.eq_1
theorem e_ref11_part_r2 : type_of% f_ref11_part_r2.eq_1 := by_rfl f_ref11_part_r2.eq_1
theorem e_ref11_part_r3 : type_of% f_ref11_part_r3.eq_1 := by_rfl f_ref11_part_r3.eq_1
theorem e_ref11_part_r4 : type_of% f_ref11_part_r4.eq_1 := by_rfl f_ref11_part_r4.eq_1
theorem e_ref11_part_r5 : type_of% f_ref11_part_r5.eq_1 := by_rfl f_ref11_part_r5.eq_1
theorem e_ref11_part_r6 : type_of% f_ref11_part_r6.eq_1 := by_rfl f_ref11_part_r6.eq_1
theorem e_ref11_part_r7 : type_of% f_ref11_part_r7.eq_1 := by_rfl f_ref11_part_r7.eq_1
theorem e_ref11_part_r8 : type_of% f_ref11_part_r8.eq_1 := by_rfl f_ref11_part_r8.eq_1
theorem e_ref11_part_r9 : type_of% f_ref11_part_r9.eq_1 := by_rfl f_ref11_part_r9.eq_1
theorem e_ref11_part_l10 : type_of% f_ref11_part_l10.eq_1 := by_rfl f_ref11_part_l10.eq_1
theorem e_ref11_part_r11 : type_of% f_ref11_part_r11.eq_1 := by_rfl f_ref11_part_r11.eq_1
theorem e_ref11_part : type_of% f_ref11_part.eq_1 := by_rfl f_ref11_part.eq_1
theorem ok_ref11_part : fnC Try.prog a_ref11_part Try.f53 = some f_ref11_part := by kernel_rfl

/-! 54 (fumarole/lease.Programme).valid -/
def f_lease_Programme_valid_r0 : List Abs.Op := [
  ⟨some 1, none, false, .boxi (.t 0)⟩,
  ⟨some 2, none, false, .mv (.c (.bool false))⟩]

def f_lease_Programme_valid_r1 : List Abs.Op := [
  ⟨some 3, none, false, .fadr 0 (.t 1)⟩,
  ⟨some 4, none, false, .ld false 1 (.t 3)⟩,
  ⟨some 5, none, false, .call false (.c (.fn i_lease_within [] [])) [(.t 4), (.c (.int .i64 0)), (.c (.int .i64 1000000))]⟩,
  ⟨some 6, none, false, .mv (.t 5)⟩,
  ⟨some 7, some (6, true), false, .fadr 1 (.t 1)⟩,
  ⟨some 8, some (6, true), false, .ld false 1 (.t 7)⟩,
  ⟨some 9, some (6, true), false, .call false (.c (.fn i_lease_within [] [])) [(.t 8), (.c (.int .i64 1)), (.c (.int .i64 1000000))]⟩,
  ⟨some 10, none, false, .pick (.t 6) (.t 9) (.c (.bool false))⟩,
  ⟨some 11, none, false, .mv (.t 10)⟩,
  ⟨some 12, some (11, true), false, .fadr 2 (.t 1)⟩,
  ⟨some 13, some (11, true), false, .ld false 1 (.t 12)⟩,
  ⟨some 14, some (11, true), false, .call false (.c (.fn i_lease_within [] [])) [(.t 13), (.c (.int .i64 0)), (.c (.int .i64 1000))]⟩,
  ⟨some 15, none, false, .pick (.t 11) (.t 14) (.c (.bool false))⟩,
  ⟨some 16, none, false, .mv (.t 15)⟩,
  ⟨some 17, some (16, true), false, .fadr 3 (.t 1)⟩,
  ⟨some 18, some (16, true), false, .ld false 1 (.t 17)⟩,
  ⟨some 19, some (16, true), false, .call false (.c (.fn i_lease_within [] [])) [(.t 18), (.c (.int .i64 0)), (.c (.int .i64 3))]⟩,
  ⟨some 20, none, false, .pick (.t 16) (.t 19) (.c (.bool false))⟩,
  ⟨some 21, none, false, .mv (.t 20)⟩,
  ⟨some 22, some (21, true), false, .fadr 4 (.t 1)⟩,
  ⟨some 23, some (21, true), false, .ld false 1 (.t 22)⟩,
  ⟨some 24, some (21, true), false, .lenS (.t 23)⟩,
  ⟨some 25, some (21, true), false, .call false (.c (.fn i_lease_within [] [])) [(.t 24), (.c (.int .i64 1)), (.c (.int .i64 8))]⟩,
  ⟨some 26, none, false, .pick (.t 21) (.t 25) (.c (.bool false))⟩,
  ⟨some 27, none, false, .mv (.t 26)⟩,
  ⟨some 28, some (27, true), false, .fadr 4 (.t 1)⟩,
  ⟨some 29, some (27, true), false, .ld false 1 (.t 28)⟩,
  ⟨some 30, some (27, true), false, .call false (.c (.fn i_lease_all_lease_Year [] [])) [(.t 29), (.c (.fn i_lease_Programme_valid_1 [] []))]⟩,
  ⟨some 31, none, false, .pick (.t 27) (.t 30) (.c (.bool false))⟩,
  ⟨some 2, none, false, .mv (.t 31)⟩]

def a_lease_Programme_valid : Ann := ⟨[(1, [2]), (0, [1])], [], [], [], [], [], [], [], [], []⟩
def f_lease_Programme_valid : Abs.Fn := ⟨1, [.t 2],
  (.seq (.reg [1] f_lease_Programme_valid_r0) (.seq (.reg [2] f_lease_Programme_valid_r1) .ret))⟩

theorem e_lease_Programme_valid_r0 : type_of% f_lease_Programme_valid_r0.eq_1 := by_rfl f_lease_Programme_valid_r0.eq_1
theorem e_lease_Programme_valid_r1 : type_of% f_lease_Programme_valid_r1.eq_1 := by_rfl f_lease_Programme_valid_r1.eq_1
theorem e_lease_Programme_valid : type_of% f_lease_Programme_valid.eq_1 := by_rfl f_lease_Programme_valid.eq_1
theorem ok_lease_Programme_valid : fnC Try.prog a_lease_Programme_valid Try.f54 = some f_lease_Programme_valid := by kernel_rfl

/-! 55 (fumarole/lease.work).table -/
def f_lease_work_table_r0 : List Abs.Op := [
  ⟨some 1, none, false, .boxi (.t 0)⟩,
  ⟨some 2, none, false, .mv (.c .nils)⟩]

def f_lease_work_table_r1 : List Abs.Op := [
  ⟨some 6, none, false, .fadr 0 (.t 1)⟩,
  ⟨some 7, none, false, .fadr 4 (.t 6)⟩,
  ⟨some 8, none, false, .ld false 1 (.t 7)⟩,
  ⟨some 9, none, false, .lenS (.t 8)⟩,
  ⟨some 10, none, false, .mks 1 24 [.nils] (.t 9) (.t 9)⟩,
  ⟨some 3, none, false, .alc [] [.nils]⟩,
  ⟨none, none, false, .st [] 1 (.t 3) (.t 10)⟩]

def f_lease_work_table_r2 : List Abs.Op := [
  ⟨some 11, none, false, .ld true 5 (.t 1)⟩,
  ⟨some 12, none, false, .call false (.c (.fn i_lease_work_ladders [] [])) [(.t 11)]⟩]

def f_lease_work_table_r3 : List Abs.Op := [
  ⟨some 4, none, false, .mv (.t 13)⟩]

def f_lease_work_table_r4 : List Abs.Op := [
  ⟨some 5, none, false, .mv (.t 14)⟩]

def f_lease_work_table_r5 : List Abs.Op := [
  ⟨some 15, none, false, .ld false 1 (.t 3)⟩,
  ⟨some 16, none, false, .mv (.t 4)⟩,
  ⟨some 17, none, false, .mv (.t 5)⟩,
  ⟨some 18, none, false, .idxS 1 (.t 15) (.t 16)⟩,
  ⟨none, none, false, .st [] 1 (.t 18) (.t 17)⟩]

def f_lease_work_table_a6 : Abs.Cmd :=
  (.seq (.reg [3, 4, 14] f_lease_work_table_r3) (.reg [3, 4, 5] f_lease_work_table_r4))

def f_lease_work_table_b6 : Abs.Cmd :=
  (.blk 1 (.reg [] f_lease_work_table_r5))

def f_lease_work_table_r7 : List Abs.Op := [
  ⟨some 19, none, false, .ld false 1 (.t 3)⟩,
  ⟨some 2, none, false, .mv (.t 19)⟩]

def a_lease_work_table : Ann := ⟨[(6, [2]), (5, []), (4, [3, 4, 5]), (3, [3, 4, 14]), (2, [2, 3, 12]), (1, [1, 2, 3]), (0, [1, 2])], [(0, [2, 3])], [], [3], [], [], [], [], [], []⟩
def f_lease_work_table : Abs.Fn := ⟨1, [.t 2],
  (.seq (.reg [1, 2] f_lease_work_table_r0) (.seq (.reg [1, 2, 3] f_lease_work_table_r1) (.seq (.seq (.reg [2, 3, 12] f_lease_work_table_r2) (.blk 0 (.rngf [2, 3] (.t 12) [13, 14] f_lease_work_table_a6 f_lease_work_table_b6))) (.seq (.reg [2] f_lease_work_table_r7) .ret))))⟩

theorem e_lease_work_table_r0 : type_of% f_lease_work_table_r0.eq_1 := by_rfl f_lease_work_table_r0.eq_1
theorem e_lease_work_table_r1 : type_of% f_lease_work_table_r1.eq_1 := by_rfl f_lease_work_table_r1.eq_1
theorem e_lease_work_table_r2 : type_of% f_lease_work_table_r2.eq_1 := by_rfl f_lease_work_table_r2.eq_1
theorem e_lease_work_table_r3 : type_of% f_lease_work_table_r3.eq_1 := by_rfl f_lease_work_table_r3.eq_1
theorem e_lease_work_table_r4 : type_of% f_lease_work_table_r4.eq_1 := by_rfl f_lease_work_table_r4.eq_1
theorem e_lease_work_table_r5 : type_of% f_lease_work_table_r5.eq_1 := by_rfl f_lease_work_table_r5.eq_1
theorem e_lease_work_table_a6 : type_of% f_lease_work_table_a6.eq_1 := by_rfl f_lease_work_table_a6.eq_1
theorem e_lease_work_table_b6 : type_of% f_lease_work_table_b6.eq_1 := by_rfl f_lease_work_table_b6.eq_1
theorem e_lease_work_table_r7 : type_of% f_lease_work_table_r7.eq_1 := by_rfl f_lease_work_table_r7.eq_1
theorem e_lease_work_table : type_of% f_lease_work_table.eq_1 := by_rfl f_lease_work_table.eq_1
theorem ok_lease_work_table : fnC Try.prog a_lease_work_table Try.f55 = some f_lease_work_table := by kernel_rfl

/-! 56 (fumarole/lease.ladder).at -/
def f_lease_ladder_at_r0 : List Abs.Op := [
  ⟨some 4, none, false, .mv (.c (.int .i64 0))⟩]

def f_lease_ladder_at_r1 : List Abs.Op := [
  ⟨some 7, none, false, .mv (.t 1)⟩,
  ⟨some 8, none, false, .mn (.t 7) (.c (.int .i64 100000000))⟩,
  ⟨some 1, none, false, .mv (.t 8)⟩]

def f_lease_ladder_at_r2 : List Abs.Op := [
  ⟨some 10, none, false, .mv (.t 0)⟩,
  ⟨some 11, none, false, .mv (.t 1)⟩,
  ⟨some 12, none, false, .call false (.c (.fn i_slices_BinarySearchFunc_lease_ladder_lease_Rung_int [] [])) [(.t 10), (.t 11), (.c (.fn i_lease_ladder_at_1 [] []))]⟩,
  ⟨some 9, none, false, .mv (.t 12)⟩,
  ⟨some 13, none, false, .ext (.t 9) 0⟩,
  ⟨some 14, none, false, .ext (.t 9) 1⟩,
  ⟨some 5, none, false, .mv (.t 13)⟩,
  ⟨some 6, none, false, .mv (.t 14)⟩]

def f_lease_ladder_at_r3 : List Abs.Op := [
  ⟨some 15, none, false, .mv (.t 0)⟩,
  ⟨some 16, none, false, .mv (.t 5)⟩,
  ⟨some 17, none, false, .idxS 2 (.t 15) (.t 16)⟩,
  ⟨some 18, none, false, .fadr 1 (.t 17)⟩,
  ⟨some 19, none, false, .ld false 1 (.t 18)⟩,
  ⟨some 4, none, false, .mv (.t 19)⟩]

def a_lease_ladder_at : Ann := ⟨[(3, [4]), (2, [0, 5]), (1, [0, 1]), (0, [0, 1])], [], [], [], [], [], [], [], [], []⟩
def f_lease_ladder_at : Abs.Fn := ⟨2, [.t 4],
  (.seq (.reg [0, 1] f_lease_ladder_at_r0) (.seq (.reg [0, 1] f_lease_ladder_at_r1) (.seq (.reg [0, 5] f_lease_ladder_at_r2) (.seq (.reg [4] f_lease_ladder_at_r3) .ret))))⟩

theorem e_lease_ladder_at_r0 : type_of% f_lease_ladder_at_r0.eq_1 := by_rfl f_lease_ladder_at_r0.eq_1
theorem e_lease_ladder_at_r1 : type_of% f_lease_ladder_at_r1.eq_1 := by_rfl f_lease_ladder_at_r1.eq_1
theorem e_lease_ladder_at_r2 : type_of% f_lease_ladder_at_r2.eq_1 := by_rfl f_lease_ladder_at_r2.eq_1
theorem e_lease_ladder_at_r3 : type_of% f_lease_ladder_at_r3.eq_1 := by_rfl f_lease_ladder_at_r3.eq_1
theorem e_lease_ladder_at : type_of% f_lease_ladder_at.eq_1 := by_rfl f_lease_ladder_at.eq_1
theorem ok_lease_ladder_at : fnC Try.prog a_lease_ladder_at Try.f56 = some f_lease_ladder_at := by kernel_rfl

/-! 57 (fumarole/lease.Programme).meets -/
def f_lease_Programme_meets_r0 : List Abs.Op := [
  ⟨some 4, none, false, .boxi (.t 0)⟩,
  ⟨some 8, none, false, .mv (.c (.bool false))⟩]

def f_lease_Programme_meets_r1 : List Abs.Op := [
  ⟨some 9, none, true, .mv (.t 2)⟩,
  ⟨some 10, none, true, .mv (.t 3)⟩,
  ⟨some 11, none, true, .fadr 1 (.t 4)⟩,
  ⟨some 12, none, true, .ld false 1 (.t 11)⟩,
  ⟨some 13, none, true, .bin .mul (.t 10) (.t 12)⟩,
  ⟨some 14, none, true, .bin .add (.t 9) (.t 13)⟩,
  ⟨some 15, none, true, .fadr 4 (.t 4)⟩,
  ⟨some 16, none, true, .ld false 1 (.t 15)⟩,
  ⟨some 17, none, true, .mv (.t 1)⟩,
  ⟨some 18, none, true, .idxS 2 (.t 16) (.t 17)⟩,
  ⟨some 19, none, true, .fadr 0 (.t 18)⟩,
  ⟨some 20, none, true, .ld false 1 (.t 19)⟩,
  ⟨some 21, none, false, .bin .geq (.t 14) (.t 20)⟩,
  ⟨some 8, none, false, .mv (.t 21)⟩]

def a_lease_Programme_meets : Ann := ⟨[(1, [8]), (0, [1, 2, 3, 4])], [], [], [], [], [], [], [], [], []⟩
def f_lease_Programme_meets : Abs.Fn := ⟨4, [.t 8],
  (.seq (.reg [1, 2, 3, 4] f_lease_Programme_meets_r0) (.seq (.reg [8] f_lease_Programme_meets_r1) .ret))⟩

theorem e_lease_Programme_meets_r0 : type_of% f_lease_Programme_meets_r0.eq_1 := by_rfl f_lease_Programme_meets_r0.eq_1
theorem e_lease_Programme_meets_r1 : type_of% f_lease_Programme_meets_r1.eq_1 := by_rfl f_lease_Programme_meets_r1.eq_1
theorem e_lease_Programme_meets : type_of% f_lease_Programme_meets.eq_1 := by_rfl f_lease_Programme_meets.eq_1
theorem ok_lease_Programme_meets : fnC Try.prog a_lease_Programme_meets Try.f57 = some f_lease_Programme_meets := by kernel_rfl

/-! 58 (fumarole/lease.Year).cost -/
def f_lease_Year_cost_r0 : List Abs.Op := [
  ⟨some 2, none, false, .boxi (.t 0)⟩,
  ⟨some 4, none, false, .mv (.c (.int .i64 0))⟩]

def f_lease_Year_cost_r1 : List Abs.Op := [
  ⟨some 5, none, false, .mv (.t 1)⟩,
  ⟨some 6, none, false, .fadr 1 (.t 2)⟩,
  ⟨some 7, none, false, .ld false 1 (.t 6)⟩,
  ⟨some 8, none, false, .bin .mul (.t 5) (.t 7)⟩,
  ⟨some 4, none, false, .mv (.t 8)⟩]

def a_lease_Year_cost : Ann := ⟨[(1, [4]), (0, [1, 2])], [], [], [], [], [], [], [], [], []⟩
def f_lease_Year_cost : Abs.Fn := ⟨2, [.t 4],
  (.seq (.reg [1, 2] f_lease_Year_cost_r0) (.seq (.reg [4] f_lease_Year_cost_r1) .ret))⟩

theorem e_lease_Year_cost_r0 : type_of% f_lease_Year_cost_r0.eq_1 := by_rfl f_lease_Year_cost_r0.eq_1
theorem e_lease_Year_cost_r1 : type_of% f_lease_Year_cost_r1.eq_1 := by_rfl f_lease_Year_cost_r1.eq_1
theorem e_lease_Year_cost : type_of% f_lease_Year_cost.eq_1 := by_rfl f_lease_Year_cost.eq_1
theorem ok_lease_Year_cost : fnC Try.prog a_lease_Year_cost Try.f58 = some f_lease_Year_cost := by kernel_rfl

/-! 59 (fumarole/lease.Programme).after -/
def f_lease_Programme_after_r0 : List Abs.Op := [
  ⟨some 3, none, false, .boxi (.t 0)⟩,
  ⟨some 6, none, false, .mv (.c (.int .i64 0))⟩]

def f_lease_Programme_after_r1 : List Abs.Op := [
  ⟨some 7, none, false, .mv (.t 1)⟩,
  ⟨some 8, none, false, .mv (.t 2)⟩,
  ⟨some 9, none, false, .fadr 1 (.t 3)⟩,
  ⟨some 10, none, false, .ld false 1 (.t 9)⟩,
  ⟨some 11, none, false, .bin .mul (.t 8) (.t 10)⟩,
  ⟨some 12, none, false, .bin .add (.t 7) (.t 11)⟩,
  ⟨some 13, none, false, .fadr 2 (.t 3)⟩,
  ⟨some 14, none, false, .ld false 1 (.t 13)⟩,
  ⟨some 15, none, false, .bin .mul (.t 12) (.t 14)⟩,
  ⟨some 16, none, false, .bin .quo (.t 15) (.c (.int .i64 1000))⟩,
  ⟨some 6, none, false, .mv (.t 16)⟩]

def a_lease_Programme_after : Ann := ⟨[(1, [6]), (0, [1, 2, 3])], [], [], [], [], [], [], [], [], []⟩
def f_lease_Programme_after : Abs.Fn := ⟨3, [.t 6],
  (.seq (.reg [1, 2, 3] f_lease_Programme_after_r0) (.seq (.reg [6] f_lease_Programme_after_r1) .ret))⟩

theorem e_lease_Programme_after_r0 : type_of% f_lease_Programme_after_r0.eq_1 := by_rfl f_lease_Programme_after_r0.eq_1
theorem e_lease_Programme_after_r1 : type_of% f_lease_Programme_after_r1.eq_1 := by_rfl f_lease_Programme_after_r1.eq_1
theorem e_lease_Programme_after : type_of% f_lease_Programme_after.eq_1 := by_rfl f_lease_Programme_after.eq_1
theorem ok_lease_Programme_after : fnC Try.prog a_lease_Programme_after Try.f59 = some f_lease_Programme_after := by kernel_rfl

/-! 60 fumarole/lease.taking -/
def f_lease_taking_r0 : List Abs.Op := [
  ⟨some 4, none, false, .mv (.c (.int .i64 0))⟩]

def f_lease_taking_r1 : List Abs.Op := [
  ⟨some 6, none, false, .mv (.t 0)⟩,
  ⟨some 7, none, false, .call false (.c (.fn i_lease_springs [] [])) [(.t 6)]⟩,
  ⟨some 8, none, false, .un .not (.t 7)⟩,
  ⟨some 5, none, false, .mv (.t 8)⟩]

def f_lease_taking_r2 : List Abs.Op := [
  ⟨some 4, none, false, .mv (.c (.int .i64 1))⟩]

def f_lease_taking_r3 : List Abs.Op := [
  ⟨some 10, none, false, .mv (.t 1)⟩,
  ⟨some 11, none, false, .lenS (.t 10)⟩,
  ⟨some 12, none, false, .mv (.t 0)⟩,
  ⟨some 13, none, false, .idxS 3 (.t 12) (.c (.int .i64 0))⟩,
  ⟨some 14, none, false, .fadr 2 (.t 13)⟩,
  ⟨some 15, none, false, .ld false 1 (.t 14)⟩,
  ⟨some 16, none, false, .lenS (.t 15)⟩,
  ⟨some 17, none, false, .bin .neq (.t 11) (.t 16)⟩,
  ⟨some 18, none, false, .mv (.t 17)⟩,
  ⟨some 19, some (18, false), false, .mv (.t 1)⟩,
  ⟨some 20, some (18, false), false, .call false (.c (.fn i_lease_all_int [] [])) [(.t 19), (.c (.fn i_lease_taking_1 [] []))]⟩,
  ⟨some 21, some (18, false), false, .un .not (.t 20)⟩,
  ⟨some 22, none, false, .pick (.t 18) (.c (.bool true)) (.t 21)⟩,
  ⟨some 9, none, false, .mv (.t 22)⟩]

def f_lease_taking_r4 : List Abs.Op := [
  ⟨some 4, none, false, .mv (.c (.int .i64 2))⟩]

def f_lease_taking_r5 : List Abs.Op := [
  ⟨some 4, none, false, .mv (.c (.int .i64 0))⟩]

def a_lease_taking : Ann := ⟨[(5, [4]), (2, [4]), (4, [4]), (3, [9]), (1, [0, 1, 5]), (0, [0, 1])], [], [], [], [], [], [], [], [], []⟩
def f_lease_taking : Abs.Fn := ⟨2, [.t 4],
  (.seq (.reg [0, 1] f_lease_taking_r0) (.seq (.blk 0 (.seq (.reg [0, 1, 5] f_lease_taking_r1) (.ite (.t 5) (.seq (.reg [4] f_lease_taking_r2) .ret) (.seq (.reg [9] f_lease_taking_r3) (.ite (.t 9) (.seq (.reg [4] f_lease_taking_r4) .ret) .nop))))) (.seq (.reg [4] f_lease_taking_r5) .ret)))⟩

theorem e_lease_taking_r0 : type_of% f_lease_taking_r0.eq_1 := by_rfl f_lease_taking_r0.eq_1
theorem e_lease_taking_r1 : type_of% f_lease_taking_r1.eq_1 := by_rfl f_lease_taking_r1.eq_1
theorem e_lease_taking_r2 : type_of% f_lease_taking_r2.eq_1 := by_rfl f_lease_taking_r2.eq_1
theorem e_lease_taking_r3 : type_of% f_lease_taking_r3.eq_1 := by_rfl f_lease_taking_r3.eq_1
theorem e_lease_taking_r4 : type_of% f_lease_taking_r4.eq_1 := by_rfl f_lease_taking_r4.eq_1
theorem e_lease_taking_r5 : type_of% f_lease_taking_r5.eq_1 := by_rfl f_lease_taking_r5.eq_1
theorem e_lease_taking : type_of% f_lease_taking.eq_1 := by_rfl f_lease_taking.eq_1
theorem ok_lease_taking : fnC Try.prog a_lease_taking Try.f60 = some f_lease_taking := by kernel_rfl

/-! 61 (fumarole/lease.Spring).behind -/
def f_lease_Spring_behind_r0 : List Abs.Op := [
  ⟨some 2, none, false, .boxi (.t 0)⟩,
  ⟨some 4, none, false, .alcv [] [(.int .i64 0), (.int .i64 0)]⟩]

def f_lease_Spring_behind_r1 : List Abs.Op := [
  ⟨some 8, none, false, .fadr 0 (.t 2)⟩,
  ⟨some 9, none, false, .ld false 1 (.t 8)⟩,
  ⟨some 10, none, false, .bin .mul (.c (.int .i64 1000)) (.t 9)⟩,
  ⟨some 11, none, false, .fadr 0 (.t 2)⟩,
  ⟨some 12, none, false, .ld false 1 (.t 11)⟩,
  ⟨some 13, none, false, .bin .mul (.c (.int .i64 1000)) (.t 12)⟩,
  ⟨some 14, none, false, .bld [(.int .i64 0), (.int .i64 0)] [(0, 1, (.t 10)), (1, 1, (.t 13))]⟩,
  ⟨some 5, none, false, .alcv [] [(.int .i64 0), (.int .i64 0)]⟩,
  ⟨none, none, false, .stv 5 [] 2 5 (.t 14)⟩]

def f_lease_Spring_behind_r2 : List Abs.Op := [
  ⟨some 15, none, false, .mv (.t 1)⟩,
  ⟨some 16, none, false, .lenS (.t 15)⟩,
  ⟨some 17, none, false, .mv (.c (.int .i64 0))⟩]

def f_lease_Spring_behind_r3 : List Abs.Op := [
  ⟨some 18, none, false, .bin .lss (.t 17) (.t 16)⟩]

def f_lease_Spring_behind_r4 : List Abs.Op := [
  ⟨some 19, none, false, .mv (.t 17)⟩,
  ⟨some 20, none, false, .idxS 1 (.t 15) (.t 17)⟩,
  ⟨some 21, none, false, .ld false 1 (.t 20)⟩,
  ⟨some 6, none, false, .mv (.t 19)⟩,
  ⟨some 7, none, false, .mv (.t 21)⟩]

def f_lease_Spring_behind_r5 : List Abs.Op := [
  ⟨some 22, none, true, .fadr 0 (.t 5)⟩,
  ⟨some 23, none, true, .ldv 5 false 1 22⟩,
  ⟨some 24, none, true, .mv (.t 7)⟩,
  ⟨some 25, none, true, .fadr 2 (.t 2)⟩,
  ⟨some 26, none, true, .ld false 1 (.t 25)⟩,
  ⟨some 27, none, true, .mv (.t 6)⟩,
  ⟨some 28, none, true, .idxS 2 (.t 26) (.t 27)⟩,
  ⟨some 29, none, true, .fadr 1 (.t 28)⟩,
  ⟨some 30, none, true, .ld false 1 (.t 29)⟩,
  ⟨some 31, none, true, .bin .mul (.t 24) (.t 30)⟩,
  ⟨some 32, none, true, .bin .sub (.t 23) (.t 31)⟩,
  ⟨some 33, none, true, .fadr 1 (.t 5)⟩,
  ⟨some 34, none, true, .ldv 5 false 1 33⟩,
  ⟨some 35, none, true, .mv (.t 7)⟩,
  ⟨some 36, none, true, .fadr 2 (.t 2)⟩,
  ⟨some 37, none, true, .ld false 1 (.t 36)⟩,
  ⟨some 38, none, true, .mv (.t 6)⟩,
  ⟨some 39, none, true, .idxS 2 (.t 37) (.t 38)⟩,
  ⟨some 40, none, true, .fadr 0 (.t 39)⟩,
  ⟨some 41, none, true, .ld false 1 (.t 40)⟩,
  ⟨some 42, none, true, .bin .mul (.t 35) (.t 41)⟩,
  ⟨some 43, none, true, .bin .sub (.t 34) (.t 42)⟩,
  ⟨some 44, none, false, .bld [(.int .i64 0), (.int .i64 0)] [(0, 1, (.t 32)), (1, 1, (.t 43))]⟩,
  ⟨none, none, false, .stv 5 [] 2 5 (.t 44)⟩]

def f_lease_Spring_behind_r6 : List Abs.Op := [
  ⟨some 45, none, false, .bin .add (.t 17) (.c (.int .i64 1))⟩,
  ⟨some 17, none, false, .mv (.t 45)⟩]

def f_lease_Spring_behind_l7 : Abs.Cmd :=
  (.seq (.reg [2, 4, 5, 15, 16, 17, 18] f_lease_Spring_behind_r3) (.seq (.ite (.t 18) .nop (.exit 0)) (.seq (.blk 1 (.seq (.reg [2, 4, 5, 6, 7, 15, 16, 17] f_lease_Spring_behind_r4) (.reg [2, 4, 5, 15, 16, 17] f_lease_Spring_behind_r5))) (.reg [2, 4, 5, 15, 16, 17] f_lease_Spring_behind_r6))))

def f_lease_Spring_behind_r8 : List Abs.Op := [
  ⟨some 46, none, false, .ldv 5 true 2 5⟩,
  ⟨none, none, false, .stv 4 [] 2 4 (.t 46)⟩]

def a_lease_Spring_behind : Ann := ⟨[(7, [4]), (6, [2, 4, 5, 15, 16, 17]), (5, [2, 4, 5, 15, 16, 17]), (4, [2, 4, 5, 6, 7, 15, 16, 17]), (3, [2, 4, 5, 15, 16, 17, 18]), (2, [2, 4, 5, 15, 16, 17]), (1, [1, 2, 4, 5]), (0, [1, 2, 4])], [(0, [2, 4, 5, 15, 16, 17])], [], [4, 5], [4, 5], [], [], [], [], []⟩
def f_lease_Spring_behind : Abs.Fn := ⟨2, [.v 4 true 2],
  (.seq (.reg [1, 2, 4] f_lease_Spring_behind_r0) (.seq (.reg [1, 2, 4, 5] f_lease_Spring_behind_r1) (.seq (.seq (.reg [2, 4, 5, 15, 16, 17] f_lease_Spring_behind_r2) (.blk 0 (.loop [2, 4, 5, 15, 16, 17] false f_lease_Spring_behind_l7))) (.seq (.reg [4] f_lease_Spring_behind_r8) .ret))))⟩

theorem e_lease_Spring_behind_r0 : type_of% f_lease_Spring_behind_r0.eq_1 := by_rfl f_lease_Spring_behind_r0.eq_1
theorem e_lease_Spring_behind_r1 : type_of% f_lease_Spring_behind_r1.eq_1 := by_rfl f_lease_Spring_behind_r1.eq_1
theorem e_lease_Spring_behind_r2 : type_of% f_lease_Spring_behind_r2.eq_1 := by_rfl f_lease_Spring_behind_r2.eq_1
theorem e_lease_Spring_behind_r3 : type_of% f_lease_Spring_behind_r3.eq_1 := by_rfl f_lease_Spring_behind_r3.eq_1
theorem e_lease_Spring_behind_r4 : type_of% f_lease_Spring_behind_r4.eq_1 := by_rfl f_lease_Spring_behind_r4.eq_1
theorem e_lease_Spring_behind_r5 : type_of% f_lease_Spring_behind_r5.eq_1 := by_rfl f_lease_Spring_behind_r5.eq_1
theorem e_lease_Spring_behind_r6 : type_of% f_lease_Spring_behind_r6.eq_1 := by_rfl f_lease_Spring_behind_r6.eq_1
theorem e_lease_Spring_behind_l7 : type_of% f_lease_Spring_behind_l7.eq_1 := by_rfl f_lease_Spring_behind_l7.eq_1
theorem e_lease_Spring_behind_r8 : type_of% f_lease_Spring_behind_r8.eq_1 := by_rfl f_lease_Spring_behind_r8.eq_1
theorem e_lease_Spring_behind : type_of% f_lease_Spring_behind.eq_1 := by_rfl f_lease_Spring_behind.eq_1
theorem ok_lease_Spring_behind : fnC Try.prog a_lease_Spring_behind Try.f61 = some f_lease_Spring_behind := by kernel_rfl

/-! 62 (fumarole/lease.Rule).valid -/
def f_lease_Rule_valid_r0 : List Abs.Op := [
  ⟨some 1, none, false, .boxi (.t 0)⟩,
  ⟨some 2, none, false, .mv (.c (.bool false))⟩]

def f_lease_Rule_valid_r1 : List Abs.Op := [
  ⟨some 5, none, false, .fadr 1 (.t 1)⟩,
  ⟨some 6, none, false, .ld false 1 (.t 5)⟩,
  ⟨some 7, none, false, .lenS (.t 6)⟩,
  ⟨some 8, none, false, .mv (.c (.int .i64 0))⟩]

def f_lease_Rule_valid_r2 : List Abs.Op := [
  ⟨some 9, none, false, .bin .lss (.t 8) (.t 7)⟩]

def f_lease_Rule_valid_r3 : List Abs.Op := [
  ⟨some 10, none, false, .mv (.t 8)⟩,
  ⟨some 11, none, false, .idxS 2 (.t 6) (.t 8)⟩,
  ⟨some 12, none, false, .ld true 2 (.t 11)⟩,
  ⟨some 4, none, false, .alcv [] [(.int .i64 0), (.int .i64 0)]⟩,
  ⟨some 3, none, false, .mv (.t 10)⟩,
  ⟨none, none, false, .stv 4 [] 2 4 (.t 12)⟩]

def f_lease_Rule_valid_r4 : List Abs.Op := [
  ⟨some 13, none, true, .fadr 0 (.t 4)⟩,
  ⟨some 14, none, true, .ldv 4 false 1 13⟩,
  ⟨some 15, none, true, .call false (.c (.fn i_lease_within [] [])) [(.t 14), (.c (.int .i64 1)), (.c (.int .i64 1000000000000))]⟩,
  ⟨some 16, none, true, .un .not (.t 15)⟩,
  ⟨some 17, none, true, .mv (.t 16)⟩,
  ⟨some 18, some (17, false), true, .fadr 1 (.t 4)⟩,
  ⟨some 19, some (17, false), true, .ldv 4 false 1 18⟩,
  ⟨some 20, some (17, false), true, .call false (.c (.fn i_lease_within [] [])) [(.t 19), (.c (.int .i64 0)), (.c (.int .i64 1000))]⟩,
  ⟨some 21, some (17, false), true, .un .not (.t 20)⟩,
  ⟨some 22, none, true, .pick (.t 17) (.c (.bool true)) (.t 21)⟩,
  ⟨some 23, none, true, .mv (.t 22)⟩,
  ⟨some 24, some (23, false), true, .mv (.t 3)⟩,
  ⟨some 25, some (23, false), true, .bin .gtr (.t 24) (.c (.int .i64 0))⟩,
  ⟨some 26, some (23, false), true, .mv (.t 25)⟩,
  ⟨some 27, some (26, true), true, .fadr 0 (.t 4)⟩,
  ⟨some 28, some (26, true), true, .ldv 4 false 1 27⟩,
  ⟨some 29, some (26, true), true, .fadr 1 (.t 1)⟩,
  ⟨some 30, some (26, true), true, .ld false 1 (.t 29)⟩,
  ⟨some 31, some (26, true), true, .mv (.t 3)⟩,
  ⟨some 32, some (26, true), true, .bin .sub (.t 31) (.c (.int .i64 1))⟩,
  ⟨some 33, some (26, true), true, .idxS 2 (.t 30) (.t 32)⟩,
  ⟨some 34, some (26, true), true, .fadr 0 (.t 33)⟩,
  ⟨some 35, some (26, true), true, .ld false 1 (.t 34)⟩,
  ⟨some 36, some (26, true), false, .bin .leq (.t 28) (.t 35)⟩,
  ⟨some 37, some (23, false), false, .pick (.t 26) (.t 36) (.c (.bool false))⟩,
  ⟨some 38, none, false, .pick (.t 23) (.c (.bool true)) (.t 37)⟩]

def f_lease_Rule_valid_r5 : List Abs.Op := [
  ⟨some 2, none, false, .mv (.c (.bool false))⟩]

def f_lease_Rule_valid_r6 : List Abs.Op := [
  ⟨some 39, none, false, .bin .add (.t 8) (.c (.int .i64 1))⟩,
  ⟨some 8, none, false, .mv (.t 39)⟩]

def f_lease_Rule_valid_l7 : Abs.Cmd :=
  (.seq (.reg [1, 6, 7, 8, 9] f_lease_Rule_valid_r2) (.seq (.ite (.t 9) .nop (.exit 0)) (.seq (.blk 1 (.seq (.reg [1, 3, 4, 6, 7, 8] f_lease_Rule_valid_r3) (.seq (.reg [1, 6, 7, 8, 38] f_lease_Rule_valid_r4) (.ite (.t 38) (.seq (.reg [2] f_lease_Rule_valid_r5) .ret) .nop)))) (.reg [1, 6, 7, 8] f_lease_Rule_valid_r6))))

def f_lease_Rule_valid_r8 : List Abs.Op := [
  ⟨some 40, none, false, .fadr 0 (.t 1)⟩,
  ⟨some 41, none, false, .ld false 1 (.t 40)⟩,
  ⟨some 42, none, false, .call false (.c (.fn i_lease_total [] [])) [(.t 41)]⟩,
  ⟨some 43, none, false, .mv (.t 42)⟩,
  ⟨some 44, some (43, true), false, .fadr 1 (.t 1)⟩,
  ⟨some 45, some (43, true), false, .ld false 1 (.t 44)⟩,
  ⟨some 46, some (43, true), false, .lenS (.t 45)⟩,
  ⟨some 47, some (43, true), false, .call false (.c (.fn i_lease_within [] [])) [(.t 46), (.c (.int .i64 1)), (.c (.int .i64 6))]⟩,
  ⟨some 48, none, false, .pick (.t 43) (.t 47) (.c (.bool false))⟩,
  ⟨some 2, none, false, .mv (.t 48)⟩]

def a_lease_Rule_valid : Ann := ⟨[(7, [2]), (6, [1, 6, 7, 8]), (5, [2]), (4, [1, 6, 7, 8, 38]), (3, [1, 3, 4, 6, 7, 8]), (2, [1, 6, 7, 8, 9]), (1, [1, 6, 7, 8]), (0, [1])], [(0, [1, 6, 7, 8])], [], [4], [4], [], [], [], [], []⟩
def f_lease_Rule_valid : Abs.Fn := ⟨1, [.t 2],
  (.seq (.reg [1] f_lease_Rule_valid_r0) (.seq (.seq (.reg [1, 6, 7, 8] f_lease_Rule_valid_r1) (.blk 0 (.loop [1, 6, 7, 8] false f_lease_Rule_valid_l7))) (.seq (.reg [2] f_lease_Rule_valid_r8) .ret)))⟩

theorem e_lease_Rule_valid_r0 : type_of% f_lease_Rule_valid_r0.eq_1 := by_rfl f_lease_Rule_valid_r0.eq_1
theorem e_lease_Rule_valid_r1 : type_of% f_lease_Rule_valid_r1.eq_1 := by_rfl f_lease_Rule_valid_r1.eq_1
theorem e_lease_Rule_valid_r2 : type_of% f_lease_Rule_valid_r2.eq_1 := by_rfl f_lease_Rule_valid_r2.eq_1
theorem e_lease_Rule_valid_r3 : type_of% f_lease_Rule_valid_r3.eq_1 := by_rfl f_lease_Rule_valid_r3.eq_1
theorem e_lease_Rule_valid_r4 : type_of% f_lease_Rule_valid_r4.eq_1 := by_rfl f_lease_Rule_valid_r4.eq_1
theorem e_lease_Rule_valid_r5 : type_of% f_lease_Rule_valid_r5.eq_1 := by_rfl f_lease_Rule_valid_r5.eq_1
theorem e_lease_Rule_valid_r6 : type_of% f_lease_Rule_valid_r6.eq_1 := by_rfl f_lease_Rule_valid_r6.eq_1
theorem e_lease_Rule_valid_l7 : type_of% f_lease_Rule_valid_l7.eq_1 := by_rfl f_lease_Rule_valid_l7.eq_1
theorem e_lease_Rule_valid_r8 : type_of% f_lease_Rule_valid_r8.eq_1 := by_rfl f_lease_Rule_valid_r8.eq_1
theorem e_lease_Rule_valid : type_of% f_lease_Rule_valid.eq_1 := by_rfl f_lease_Rule_valid.eq_1
theorem ok_lease_Rule_valid : fnC Try.prog a_lease_Rule_valid Try.f62 = some f_lease_Rule_valid := by kernel_rfl

/-! 63 (fumarole/lease.Concession).valid -/
def f_lease_Concession_valid_r0 : List Abs.Op := [
  ⟨some 1, none, false, .boxi (.t 0)⟩,
  ⟨some 2, none, false, .mv (.c (.bool false))⟩]

def f_lease_Concession_valid_r1 : List Abs.Op := [
  ⟨some 3, none, false, .fadr 0 (.t 1)⟩,
  ⟨some 4, none, false, .ld false 1 (.t 3)⟩,
  ⟨some 5, none, false, .call false (.c (.fn i_lease_within [] [])) [(.t 4), (.c (.int .i64 1)), (.c (.int .i64 8))]⟩,
  ⟨some 6, none, false, .mv (.t 5)⟩,
  ⟨some 7, some (6, true), false, .fadr 1 (.t 1)⟩,
  ⟨some 8, some (6, true), false, .ld false 1 (.t 7)⟩,
  ⟨some 9, some (6, true), false, .lenS (.t 8)⟩,
  ⟨some 10, some (6, true), false, .call false (.c (.fn i_lease_within [] [])) [(.t 9), (.c (.int .i64 1)), (.c (.int .i64 20))]⟩,
  ⟨some 11, none, false, .pick (.t 6) (.t 10) (.c (.bool false))⟩,
  ⟨some 12, none, false, .mv (.t 11)⟩,
  ⟨some 13, some (12, true), false, .fadr 1 (.t 1)⟩,
  ⟨some 14, some (12, true), false, .ld false 1 (.t 13)⟩,
  ⟨some 15, some (12, true), false, .mkf i_lease_Concession_valid_1 [] [(.t 1)]⟩,
  ⟨some 16, some (12, true), false, .call false (.c (.fn i_lease_all_L_int [] [])) [(.t 14), (.t 15)]⟩,
  ⟨some 17, none, false, .pick (.t 12) (.t 16) (.c (.bool false))⟩,
  ⟨some 2, none, false, .mv (.t 17)⟩]

def a_lease_Concession_valid : Ann := ⟨[(1, [2]), (0, [1])], [], [], [], [], [], [], [], [], []⟩
def f_lease_Concession_valid : Abs.Fn := ⟨1, [.t 2],
  (.seq (.reg [1] f_lease_Concession_valid_r0) (.seq (.reg [2] f_lease_Concession_valid_r1) .ret))⟩

theorem e_lease_Concession_valid_r0 : type_of% f_lease_Concession_valid_r0.eq_1 := by_rfl f_lease_Concession_valid_r0.eq_1
theorem e_lease_Concession_valid_r1 : type_of% f_lease_Concession_valid_r1.eq_1 := by_rfl f_lease_Concession_valid_r1.eq_1
theorem e_lease_Concession_valid : type_of% f_lease_Concession_valid.eq_1 := by_rfl f_lease_Concession_valid.eq_1
theorem ok_lease_Concession_valid : fnC Try.prog a_lease_Concession_valid Try.f63 = some f_lease_Concession_valid := by kernel_rfl

/-! 64 (fumarole/lease.Concession).masses -/
def f_lease_Concession_masses_r0 : List Abs.Op := [
  ⟨some 2, none, false, .boxi (.t 0)⟩,
  ⟨some 4, none, false, .mv (.c (.bool false))⟩]

def f_lease_Concession_masses_r1 : List Abs.Op := [
  ⟨some 5, none, false, .mv (.t 1)⟩,
  ⟨some 6, none, false, .lenS (.t 5)⟩,
  ⟨some 7, none, false, .fadr 1 (.t 2)⟩,
  ⟨some 8, none, false, .ld false 1 (.t 7)⟩,
  ⟨some 9, none, false, .lenS (.t 8)⟩,
  ⟨some 10, none, false, .bin .eql (.t 6) (.t 9)⟩,
  ⟨some 11, none, false, .mv (.t 10)⟩,
  ⟨some 12, some (11, true), false, .mv (.t 1)⟩,
  ⟨some 13, some (11, true), false, .call false (.c (.fn i_lease_all_int [] [])) [(.t 12), (.c (.fn i_lease_total [] []))]⟩,
  ⟨some 14, none, false, .pick (.t 11) (.t 13) (.c (.bool false))⟩,
  ⟨some 4, none, false, .mv (.t 14)⟩]

def a_lease_Concession_masses : Ann := ⟨[(1, [4]), (0, [1, 2])], [], [], [], [], [], [], [], [], []⟩
def f_lease_Concession_masses : Abs.Fn := ⟨2, [.t 4],
  (.seq (.reg [1, 2] f_lease_Concession_masses_r0) (.seq (.reg [4] f_lease_Concession_masses_r1) .ret))⟩

theorem e_lease_Concession_masses_r0 : type_of% f_lease_Concession_masses_r0.eq_1 := by_rfl f_lease_Concession_masses_r0.eq_1
theorem e_lease_Concession_masses_r1 : type_of% f_lease_Concession_masses_r1.eq_1 := by_rfl f_lease_Concession_masses_r1.eq_1
theorem e_lease_Concession_masses : type_of% f_lease_Concession_masses.eq_1 := by_rfl f_lease_Concession_masses.eq_1
theorem ok_lease_Concession_masses : fnC Try.prog a_lease_Concession_masses Try.f64 = some f_lease_Concession_masses := by kernel_rfl

/-! 65 slices.Clone[[]int,int] -/
def f_slices_Clone_int_r0 : List Abs.Op := [
  ⟨some 2, none, false, .nilb 1⟩]

def f_slices_Clone_int_r1 : List Abs.Op := [
  ⟨some 3, none, false, .mv (.t 0)⟩,
  ⟨some 4, none, false, .isn false false (.t 3)⟩]

def f_slices_Clone_int_r2 : List Abs.Op := [
  ⟨some 2, none, false, .nilb 1⟩]

def f_slices_Clone_int_r3 : List Abs.Op := [
  ⟨some 5, none, false, .bsm 0 1 [] []⟩,
  ⟨some 6, none, false, .mv (.t 0)⟩,
  ⟨some 7, none, false, .app 1 8 (.t 5) (.t 6)⟩,
  ⟨some 2, none, false, .mv (.t 7)⟩]

def a_slices_Clone_int : Ann := ⟨[(3, [2]), (2, [2]), (1, [0, 4]), (0, [0])], [], [], [2, 5], [], [], [], [], [], []⟩
def f_slices_Clone_int : Abs.Fn := ⟨1, [.t 2],
  (.seq (.reg [0] f_slices_Clone_int_r0) (.seq (.seq (.reg [0, 4] f_slices_Clone_int_r1) (.ite (.t 4) (.seq (.reg [2] f_slices_Clone_int_r2) .ret) .nop)) (.seq (.reg [2] f_slices_Clone_int_r3) .ret)))⟩

theorem e_slices_Clone_int_r0 : type_of% f_slices_Clone_int_r0.eq_1 := by_rfl f_slices_Clone_int_r0.eq_1
theorem e_slices_Clone_int_r1 : type_of% f_slices_Clone_int_r1.eq_1 := by_rfl f_slices_Clone_int_r1.eq_1
theorem e_slices_Clone_int_r2 : type_of% f_slices_Clone_int_r2.eq_1 := by_rfl f_slices_Clone_int_r2.eq_1
theorem e_slices_Clone_int_r3 : type_of% f_slices_Clone_int_r3.eq_1 := by_rfl f_slices_Clone_int_r3.eq_1
theorem e_slices_Clone_int : type_of% f_slices_Clone_int.eq_1 := by_rfl f_slices_Clone_int.eq_1
theorem ok_slices_Clone_int : fnC Try.prog a_slices_Clone_int Try.f65 = some f_slices_Clone_int := by kernel_rfl

end Go.Proofs.Ytcccafphhmcifaa
