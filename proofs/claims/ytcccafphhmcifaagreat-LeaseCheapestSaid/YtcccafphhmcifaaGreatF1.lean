/- The code of functions of the program, in the small instruction set; each is what the translation makes of it. -/
import Derived.Test.YtcccafphhmcifaaGreatIds
set_option linter.unusedVariables false
set_option maxRecDepth 100000
namespace Go.Proofs.YtcccafphhmcifaaGreat
open Go Go.Abs
/-! 24 fumarole/lease.Room -/
def f_lease_Room_r0 : List Abs.Op := [
  ⟨some 6, none, false, .mv (.c (.int .i64 0))⟩,
  ⟨some 7, none, false, .mv (.c (.int .i64 0))⟩]

def f_lease_Room_r1 : List Abs.Op := [
  ⟨some 14, none, false, .mv (.t 0)⟩,
  ⟨some 15, none, false, .mv (.t 1)⟩,
  ⟨some 16, none, false, .call false (.c (.fn i_lease_taking [] [])) [(.t 14), (.t 15)]⟩,
  ⟨some 8, none, false, .mv (.t 16)⟩]

def f_lease_Room_r2 : List Abs.Op := [
  ⟨some 17, none, false, .mv (.t 8)⟩,
  ⟨some 18, none, false, .bin .neq (.t 17) (.c (.int .i64 0))⟩]

def f_lease_Room_r3 : List Abs.Op := [
  ⟨some 19, none, false, .mv (.t 8)⟩,
  ⟨some 6, none, false, .mv (.c (.int .i64 0))⟩,
  ⟨some 7, none, false, .mv (.t 19)⟩]

def f_lease_Room_r4 : List Abs.Op := [
  ⟨some 20, none, false, .mv (.t 2)⟩,
  ⟨some 21, none, false, .mv (.t 1)⟩,
  ⟨some 22, none, false, .lenS (.t 21)⟩,
  ⟨some 23, none, false, .bin .sub (.t 22) (.c (.int .i64 1))⟩,
  ⟨some 24, none, false, .call false (.c (.fn i_lease_within [] [])) [(.t 20), (.c (.int .i64 0)), (.t 23)]⟩,
  ⟨some 25, none, false, .un .not (.t 24)⟩]

def f_lease_Room_r5 : List Abs.Op := [
  ⟨some 6, none, false, .mv (.c (.int .i64 0))⟩,
  ⟨some 7, none, false, .mv (.c (.int .i64 2))⟩]

def f_lease_Room_r6 : List Abs.Op := [
  ⟨some 26, none, false, .mv (.t 1)⟩,
  ⟨some 27, none, false, .mv (.t 2)⟩,
  ⟨some 28, none, false, .idxS 1 (.t 26) (.t 27)⟩,
  ⟨some 29, none, false, .ld false 1 (.t 28)⟩,
  ⟨some 30, none, false, .bin .sub (.c (.int .i64 1000000)) (.t 29)⟩,
  ⟨some 9, none, false, .mv (.t 30)⟩]

def f_lease_Room_r7 : List Abs.Op := [
  ⟨some 31, none, false, .mv (.t 0)⟩,
  ⟨some 32, none, false, .lenS (.t 31)⟩,
  ⟨some 33, none, false, .mv (.c (.int .i64 0))⟩]

def f_lease_Room_r8 : List Abs.Op := [
  ⟨some 34, none, false, .bin .lss (.t 33) (.t 32)⟩]

def f_lease_Room_r9 : List Abs.Op := [
  ⟨some 35, none, false, .idxS 3 (.t 31) (.t 33)⟩,
  ⟨some 36, none, false, .ld true 3 (.t 35)⟩,
  ⟨some 11, none, false, .alcv [] [(.int .i64 0), (.int .i64 0), .nils]⟩,
  ⟨none, none, false, .stv 11 [] 3 11 (.t 36)⟩]

def f_lease_Room_r10 : List Abs.Op := [
  ⟨some 37, none, true, .ldv 11 true 3 11⟩,
  ⟨some 38, none, true, .mv (.t 1)⟩,
  ⟨some 39, none, true, .call false (.c (.fn i_lease_Spring_behind [] [])) [(.t 37), (.t 38)]⟩,
  ⟨some 40, none, true, .fld false 0 1 (.t 39)⟩,
  ⟨some 41, none, true, .fadr 1 (.t 11)⟩,
  ⟨some 42, none, true, .ldv 11 false 1 41⟩,
  ⟨some 43, none, true, .bin .mul (.c (.int .i64 1000)) (.t 42)⟩,
  ⟨some 44, none, false, .bin .sub (.t 40) (.t 43)⟩,
  ⟨some 12, none, false, .mv (.t 44)⟩]

def f_lease_Room_r11 : List Abs.Op := [
  ⟨some 45, none, false, .mv (.t 12)⟩,
  ⟨some 46, none, false, .bin .lss (.t 45) (.c (.int .i64 0))⟩]

def f_lease_Room_r12 : List Abs.Op := [
  ⟨some 6, none, false, .mv (.c (.int .i64 0))⟩,
  ⟨some 7, none, false, .mv (.c (.int .i64 9))⟩]

def f_lease_Room_r13 : List Abs.Op := [
  ⟨some 47, none, false, .fadr 2 (.t 11)⟩,
  ⟨some 48, none, false, .ldv 11 false 1 47⟩,
  ⟨some 49, none, false, .mv (.t 2)⟩,
  ⟨some 50, none, false, .idxS 2 (.t 48) (.t 49)⟩,
  ⟨some 51, none, false, .fadr 1 (.t 50)⟩,
  ⟨some 52, none, false, .ld false 1 (.t 51)⟩,
  ⟨some 13, none, false, .mv (.t 52)⟩]

def f_lease_Room_r14 : List Abs.Op := [
  ⟨some 53, none, false, .mv (.t 13)⟩,
  ⟨some 54, none, false, .bin .gtr (.t 53) (.c (.int .i64 0))⟩]

def f_lease_Room_r15 : List Abs.Op := [
  ⟨some 55, none, false, .mv (.t 9)⟩,
  ⟨some 56, none, false, .mv (.t 12)⟩,
  ⟨some 57, none, false, .mv (.t 13)⟩,
  ⟨some 58, none, false, .bin .quo (.t 56) (.t 57)⟩,
  ⟨some 59, none, false, .mn (.t 55) (.t 58)⟩,
  ⟨some 9, none, false, .mv (.t 59)⟩]

def f_lease_Room_r16 : List Abs.Op := [
  ⟨some 60, none, false, .bin .add (.t 33) (.c (.int .i64 1))⟩,
  ⟨some 33, none, false, .mv (.t 60)⟩]

def f_lease_Room_l17 : Abs.Cmd :=
  (.seq (.reg [1, 2, 9, 31, 32, 33, 34] f_lease_Room_r8) (.seq (.ite (.t 34) .nop (.exit 0)) (.seq (.blk 1 (.seq (.reg [1, 2, 9, 11, 31, 32, 33] f_lease_Room_r9) (.seq (.reg [1, 2, 9, 11, 12, 31, 32, 33] f_lease_Room_r10) (.seq (.seq (.reg [1, 2, 9, 11, 12, 31, 32, 33, 46] f_lease_Room_r11) (.ite (.t 46) (.seq (.reg [6, 7] f_lease_Room_r12) .ret) .nop)) (.seq (.reg [1, 2, 9, 12, 13, 31, 32, 33] f_lease_Room_r13) (.seq (.reg [1, 2, 9, 12, 13, 31, 32, 33, 54] f_lease_Room_r14) (.ite (.t 54) (.reg [1, 2, 9, 31, 32, 33] f_lease_Room_r15) .nop))))))) (.reg [1, 2, 9, 31, 32, 33] f_lease_Room_r16))))

def f_lease_Room_r18 : List Abs.Op := [
  ⟨some 61, none, false, .mv (.t 9)⟩,
  ⟨some 6, none, false, .mv (.t 61)⟩,
  ⟨some 7, none, false, .mv (.c (.int .i64 0))⟩]

def a_lease_Room : Ann := ⟨[(17, [6, 7]), (16, [1, 2, 9, 31, 32, 33]), (15, [1, 2, 9, 31, 32, 33]), (14, [1, 2, 9, 12, 13, 31, 32, 33, 54]), (13, [1, 2, 9, 12, 13, 31, 32, 33]), (12, [6, 7]), (11, [1, 2, 9, 11, 12, 31, 32, 33, 46]), (10, [1, 2, 9, 11, 12, 31, 32, 33]), (9, [1, 2, 9, 11, 31, 32, 33]), (8, [1, 2, 9, 31, 32, 33, 34]), (7, [1, 2, 9, 31, 32, 33]), (6, [0, 1, 2, 9]), (5, [6, 7]), (4, [0, 1, 2, 25]), (3, [6, 7]), (2, [0, 1, 2, 8, 18]), (1, [0, 1, 2, 8]), (0, [0, 1, 2])], [(0, [1, 2, 9, 31, 32, 33])], [], [11], [11], [], [], [], [], []⟩
def f_lease_Room : Abs.Fn := ⟨3, [.t 6, .t 7],
  (.seq (.reg [0, 1, 2] f_lease_Room_r0) (.seq (.seq (.reg [0, 1, 2, 8] f_lease_Room_r1) (.seq (.reg [0, 1, 2, 8, 18] f_lease_Room_r2) (.ite (.t 18) (.seq (.reg [6, 7] f_lease_Room_r3) .ret) .nop))) (.seq (.seq (.reg [0, 1, 2, 25] f_lease_Room_r4) (.ite (.t 25) (.seq (.reg [6, 7] f_lease_Room_r5) .ret) .nop)) (.seq (.reg [0, 1, 2, 9] f_lease_Room_r6) (.seq (.seq (.reg [1, 2, 9, 31, 32, 33] f_lease_Room_r7) (.blk 0 (.loop [1, 2, 9, 31, 32, 33] false f_lease_Room_l17))) (.seq (.reg [6, 7] f_lease_Room_r18) .ret))))))⟩

theorem e_lease_Room_r0 : type_of% f_lease_Room_r0.eq_1 := by_rfl f_lease_Room_r0.eq_1
theorem e_lease_Room_r1 : type_of% f_lease_Room_r1.eq_1 := by_rfl f_lease_Room_r1.eq_1
theorem e_lease_Room_r2 : type_of% f_lease_Room_r2.eq_1 := by_rfl f_lease_Room_r2.eq_1
theorem e_lease_Room_r3 : type_of% f_lease_Room_r3.eq_1 := by_rfl f_lease_Room_r3.eq_1
theorem e_lease_Room_r4 : type_of% f_lease_Room_r4.eq_1 := by_rfl f_lease_Room_r4.eq_1
theorem e_lease_Room_r5 : type_of% f_lease_Room_r5.eq_1 := by_rfl f_lease_Room_r5.eq_1
theorem e_lease_Room_r6 : type_of% f_lease_Room_r6.eq_1 := by_rfl f_lease_Room_r6.eq_1
theorem e_lease_Room_r7 : type_of% f_lease_Room_r7.eq_1 := by_rfl f_lease_Room_r7.eq_1
theorem e_lease_Room_r8 : type_of% f_lease_Room_r8.eq_1 := by_rfl f_lease_Room_r8.eq_1
theorem e_lease_Room_r9 : type_of% f_lease_Room_r9.eq_1 := by_rfl f_lease_Room_r9.eq_1
theorem e_lease_Room_r10 : type_of% f_lease_Room_r10.eq_1 := by_rfl f_lease_Room_r10.eq_1
theorem e_lease_Room_r11 : type_of% f_lease_Room_r11.eq_1 := by_rfl f_lease_Room_r11.eq_1
theorem e_lease_Room_r12 : type_of% f_lease_Room_r12.eq_1 := by_rfl f_lease_Room_r12.eq_1
theorem e_lease_Room_r13 : type_of% f_lease_Room_r13.eq_1 := by_rfl f_lease_Room_r13.eq_1
theorem e_lease_Room_r14 : type_of% f_lease_Room_r14.eq_1 := by_rfl f_lease_Room_r14.eq_1
theorem e_lease_Room_r15 : type_of% f_lease_Room_r15.eq_1 := by_rfl f_lease_Room_r15.eq_1
theorem e_lease_Room_r16 : type_of% f_lease_Room_r16.eq_1 := by_rfl f_lease_Room_r16.eq_1
theorem e_lease_Room_l17 : type_of% f_lease_Room_l17.eq_1 := by_rfl f_lease_Room_l17.eq_1
theorem e_lease_Room_r18 : type_of% f_lease_Room_r18.eq_1 := by_rfl f_lease_Room_r18.eq_1
theorem e_lease_Room : type_of% f_lease_Room.eq_1 := by_rfl f_lease_Room.eq_1
theorem ok_lease_Room : fnC Tryz.prog a_lease_Room Tryz.f24 = some f_lease_Room := by kernel_rfl

/-! 30 fumarole/lease.Due -/
def f_lease_Due_r0 : List Abs.Op := [
  ⟨some 2, none, false, .boxi (.t 0)⟩,
  ⟨some 4, none, false, .mv (.c .nils)⟩,
  ⟨some 5, none, false, .mv (.c (.int .i64 0))⟩,
  ⟨some 6, none, false, .mv (.c (.int .i64 0))⟩]

def f_lease_Due_r1 : List Abs.Op := [
  ⟨some 8, none, false, .ld true 2 (.t 2)⟩,
  ⟨some 9, none, false, .call false (.c (.fn i_lease_Concession_valid [] [])) [(.t 8)]⟩,
  ⟨some 10, none, false, .un .not (.t 9)⟩,
  ⟨some 7, none, false, .mv (.t 10)⟩]

def f_lease_Due_r2 : List Abs.Op := [
  ⟨some 4, none, false, .mv (.c .nils)⟩,
  ⟨some 5, none, false, .mv (.c (.int .i64 0))⟩,
  ⟨some 6, none, false, .mv (.c (.int .i64 1))⟩]

def f_lease_Due_r3 : List Abs.Op := [
  ⟨some 12, none, false, .ld true 2 (.t 2)⟩,
  ⟨some 13, none, false, .mv (.t 1)⟩,
  ⟨some 14, none, false, .call false (.c (.fn i_lease_Concession_masses [] [])) [(.t 12), (.t 13)]⟩,
  ⟨some 15, none, false, .un .not (.t 14)⟩,
  ⟨some 11, none, false, .mv (.t 15)⟩]

def f_lease_Due_r4 : List Abs.Op := [
  ⟨some 4, none, false, .mv (.c .nils)⟩,
  ⟨some 5, none, false, .mv (.c (.int .i64 0))⟩,
  ⟨some 6, none, false, .mv (.c (.int .i64 2))⟩]

def f_lease_Due_r5 : List Abs.Op := [
  ⟨some 17, none, false, .ld true 2 (.t 2)⟩,
  ⟨some 18, none, false, .mv (.t 1)⟩,
  ⟨some 19, none, false, .call false (.c (.fn i_lease_Concession_due [] [])) [(.t 17), (.t 18)]⟩,
  ⟨some 16, none, false, .mv (.t 19)⟩,
  ⟨some 20, none, false, .ext (.t 16) 0⟩,
  ⟨some 21, none, false, .ext (.t 16) 1⟩,
  ⟨some 4, none, false, .mv (.t 20)⟩,
  ⟨some 5, none, false, .mv (.t 21)⟩]

def f_lease_Due_r6 : List Abs.Op := [
  ⟨some 22, none, false, .mv (.t 4)⟩,
  ⟨some 23, none, false, .mv (.t 5)⟩,
  ⟨some 4, none, false, .mv (.t 22)⟩,
  ⟨some 5, none, false, .mv (.t 23)⟩,
  ⟨some 6, none, false, .mv (.c (.int .i64 0))⟩]

def a_lease_Due : Ann := ⟨[(6, [4, 5, 6]), (5, [4, 5]), (2, [4, 5, 6]), (4, [4, 5, 6]), (3, [1, 2, 11]), (1, [1, 2, 7]), (0, [1, 2])], [], [], [], [], [], [], [], [], []⟩
def f_lease_Due : Abs.Fn := ⟨2, [.t 4, .t 5, .t 6],
  (.seq (.reg [1, 2] f_lease_Due_r0) (.seq (.blk 0 (.seq (.reg [1, 2, 7] f_lease_Due_r1) (.ite (.t 7) (.seq (.reg [4, 5, 6] f_lease_Due_r2) .ret) (.seq (.reg [1, 2, 11] f_lease_Due_r3) (.ite (.t 11) (.seq (.reg [4, 5, 6] f_lease_Due_r4) .ret) .nop))))) (.seq (.reg [4, 5] f_lease_Due_r5) (.seq (.reg [4, 5, 6] f_lease_Due_r6) .ret))))⟩

theorem e_lease_Due_r0 : type_of% f_lease_Due_r0.eq_1 := by_rfl f_lease_Due_r0.eq_1
theorem e_lease_Due_r1 : type_of% f_lease_Due_r1.eq_1 := by_rfl f_lease_Due_r1.eq_1
theorem e_lease_Due_r2 : type_of% f_lease_Due_r2.eq_1 := by_rfl f_lease_Due_r2.eq_1
theorem e_lease_Due_r3 : type_of% f_lease_Due_r3.eq_1 := by_rfl f_lease_Due_r3.eq_1
theorem e_lease_Due_r4 : type_of% f_lease_Due_r4.eq_1 := by_rfl f_lease_Due_r4.eq_1
theorem e_lease_Due_r5 : type_of% f_lease_Due_r5.eq_1 := by_rfl f_lease_Due_r5.eq_1
theorem e_lease_Due_r6 : type_of% f_lease_Due_r6.eq_1 := by_rfl f_lease_Due_r6.eq_1
theorem e_lease_Due : type_of% f_lease_Due.eq_1 := by_rfl f_lease_Due.eq_1
theorem ok_lease_Due : fnC Tryz.prog a_lease_Due Tryz.f30 = some f_lease_Due := by kernel_rfl

/-! 38 fumarole/fumarolelaw11.table -/
def f_law11_table_r0 : List Abs.Op := [
  ⟨some 2, none, false, .mv (.c .nils)⟩]

def f_law11_table_r1 : List Abs.Op := [
  ⟨some 3, none, false, .nilb 1⟩]

def f_law11_table_r2 : List Abs.Op := [
  ⟨some 4, none, false, .mv (.c (.int .i64 0))⟩]

def f_law11_table_r3 : List Abs.Op := [
  ⟨some 7, none, false, .mv (.t 4)⟩,
  ⟨some 8, none, false, .mv (.t 0)⟩,
  ⟨some 9, none, false, .lenS (.t 8)⟩,
  ⟨some 10, none, false, .bin .lss (.t 7) (.t 9)⟩]

def f_law11_table_r4 : List Abs.Op := [
  ⟨some 5, none, false, .nilb 2⟩]

def f_law11_table_r5 : List Abs.Op := [
  ⟨some 6, none, false, .mv (.c (.int .i64 0))⟩]

def f_law11_table_r6 : List Abs.Op := [
  ⟨some 13, none, false, .mv (.t 6)⟩,
  ⟨some 14, none, false, .mv (.t 0)⟩,
  ⟨some 15, none, false, .mv (.t 4)⟩,
  ⟨some 16, none, false, .idxS 1 (.t 14) (.t 15)⟩,
  ⟨some 17, none, false, .ld false 1 (.t 16)⟩,
  ⟨some 18, none, false, .lenS (.t 17)⟩,
  ⟨some 19, none, false, .bin .lss (.t 13) (.t 18)⟩]

def f_law11_table_r7 : List Abs.Op := [
  ⟨some 22, none, true, .mv (.t 5)⟩,
  ⟨some 23, none, true, .mv (.t 0)⟩,
  ⟨some 24, none, true, .mv (.t 4)⟩,
  ⟨some 25, none, true, .idxS 1 (.t 23) (.t 24)⟩,
  ⟨some 26, none, true, .ld false 1 (.t 25)⟩,
  ⟨some 27, none, true, .mv (.t 6)⟩,
  ⟨some 28, none, true, .idxS 2 (.t 26) (.t 27)⟩,
  ⟨some 29, none, true, .fadr 0 (.t 28)⟩,
  ⟨some 30, none, true, .ld false 1 (.t 29)⟩,
  ⟨some 31, none, true, .mv (.t 0)⟩,
  ⟨some 32, none, true, .mv (.t 4)⟩,
  ⟨some 33, none, true, .idxS 1 (.t 31) (.t 32)⟩,
  ⟨some 34, none, true, .ld false 1 (.t 33)⟩,
  ⟨some 35, none, true, .mv (.t 6)⟩,
  ⟨some 36, none, true, .idxS 2 (.t 34) (.t 35)⟩,
  ⟨some 37, none, true, .fadr 1 (.t 36)⟩,
  ⟨some 38, none, true, .ld false 1 (.t 37)⟩,
  ⟨some 39, none, true, .bld [(.int .i64 0), (.int .i64 0)] [(0, 1, (.t 30)), (1, 1, (.t 38))]⟩,
  ⟨some 40, none, true, .bsi 1 2 [(.int .i64 0), (.int .i64 0)] [(0, 2, (.t 39))]⟩,
  ⟨some 41, none, false, .app 2 16 (.t 22) (.t 40)⟩,
  ⟨some 5, none, false, .mv (.t 41)⟩]

def f_law11_table_r8 : List Abs.Op := [
  ⟨some 20, none, false, .mv (.t 6)⟩,
  ⟨some 21, none, false, .bin .add (.t 20) (.c (.int .i64 1))⟩,
  ⟨some 6, none, false, .mv (.t 21)⟩]

def f_law11_table_l9 : Abs.Cmd :=
  (.seq (.seq (.reg [0, 3, 4, 5, 6, 19] f_law11_table_r6) (.ite (.t 19) .nop (.exit 2))) (.seq (.blk 3 (.reg [0, 3, 4, 5, 6] f_law11_table_r7)) (.reg [0, 3, 4, 5, 6] f_law11_table_r8)))

def f_law11_table_r10 : List Abs.Op := [
  ⟨some 42, none, false, .mv (.t 3)⟩,
  ⟨some 43, none, false, .mv (.t 5)⟩,
  ⟨some 44, none, false, .bsi 1 1 [.nils] [(0, 1, (.t 43))]⟩,
  ⟨some 45, none, false, .app 1 24 (.t 42) (.t 44)⟩,
  ⟨some 3, none, false, .mv (.t 45)⟩]

def f_law11_table_r11 : List Abs.Op := [
  ⟨some 11, none, false, .mv (.t 4)⟩,
  ⟨some 12, none, false, .bin .add (.t 11) (.c (.int .i64 1))⟩,
  ⟨some 4, none, false, .mv (.t 12)⟩]

def f_law11_table_l12 : Abs.Cmd :=
  (.seq (.seq (.reg [0, 3, 4, 10] f_law11_table_r3) (.ite (.t 10) .nop (.exit 0))) (.seq (.blk 1 (.seq (.reg [0, 3, 4, 5] f_law11_table_r4) (.seq (.seq (.reg [0, 3, 4, 5, 6] f_law11_table_r5) (.blk 2 (.loop [0, 3, 4, 5, 6] false f_law11_table_l9))) (.reg [0, 3, 4] f_law11_table_r10)))) (.reg [0, 3, 4] f_law11_table_r11)))

def f_law11_table_r13 : List Abs.Op := [
  ⟨some 46, none, false, .mv (.t 3)⟩,
  ⟨some 2, none, false, .mv (.t 46)⟩]

def a_law11_table : Ann := ⟨[(11, [2]), (4, [0, 3, 4]), (10, [0, 3, 4]), (8, [0, 3, 4, 5, 6]), (9, [0, 3, 4, 5, 6]), (7, [0, 3, 4, 5, 6, 19]), (6, [0, 3, 4, 5, 6]), (5, [0, 3, 4, 5]), (3, [0, 3, 4, 10]), (2, [0, 3, 4]), (1, [0, 3]), (0, [0])], [(2, [0, 3, 4, 5, 6]), (0, [0, 3, 4])], [0], [3, 5], [], [], [], [], [], []⟩
def f_law11_table : Abs.Fn := ⟨1, [.t 2],
  (.seq (.reg [0] f_law11_table_r0) (.seq (.reg [0, 3] f_law11_table_r1) (.seq (.seq (.reg [0, 3, 4] f_law11_table_r2) (.blk 0 (.loop [0, 3, 4] true f_law11_table_l12))) (.seq (.reg [2] f_law11_table_r13) .ret))))⟩

theorem e_law11_table_r0 : type_of% f_law11_table_r0.eq_1 := by_rfl f_law11_table_r0.eq_1
theorem e_law11_table_r1 : type_of% f_law11_table_r1.eq_1 := by_rfl f_law11_table_r1.eq_1
theorem e_law11_table_r2 : type_of% f_law11_table_r2.eq_1 := by_rfl f_law11_table_r2.eq_1
theorem e_law11_table_r3 : type_of% f_law11_table_r3.eq_1 := by_rfl f_law11_table_r3.eq_1
theorem e_law11_table_r4 : type_of% f_law11_table_r4.eq_1 := by_rfl f_law11_table_r4.eq_1
theorem e_law11_table_r5 : type_of% f_law11_table_r5.eq_1 := by_rfl f_law11_table_r5.eq_1
theorem e_law11_table_r6 : type_of% f_law11_table_r6.eq_1 := by_rfl f_law11_table_r6.eq_1
theorem e_law11_table_r7 : type_of% f_law11_table_r7.eq_1 := by_rfl f_law11_table_r7.eq_1
theorem e_law11_table_r8 : type_of% f_law11_table_r8.eq_1 := by_rfl f_law11_table_r8.eq_1
theorem e_law11_table_l9 : type_of% f_law11_table_l9.eq_1 := by_rfl f_law11_table_l9.eq_1
theorem e_law11_table_r10 : type_of% f_law11_table_r10.eq_1 := by_rfl f_law11_table_r10.eq_1
theorem e_law11_table_r11 : type_of% f_law11_table_r11.eq_1 := by_rfl f_law11_table_r11.eq_1
theorem e_law11_table_l12 : type_of% f_law11_table_l12.eq_1 := by_rfl f_law11_table_l12.eq_1
theorem e_law11_table_r13 : type_of% f_law11_table_r13.eq_1 := by_rfl f_law11_table_r13.eq_1
theorem e_law11_table : type_of% f_law11_table.eq_1 := by_rfl f_law11_table.eq_1
theorem ok_law11_table : fnC Tryz.prog a_law11_table Tryz.f38 = some f_law11_table := by kernel_rfl

/-! 39 fumarole/lease.ProveDrill -/
def f_lease_ProveDrill_r0 : List Abs.Op := [
  ⟨some 3, none, false, .boxi (.t 0)⟩,
  ⟨some 6, none, false, .mv (.c (.bool false))⟩]

def f_lease_ProveDrill_r1 : List Abs.Op := [
  ⟨some 15, none, false, .ld true 5 (.t 3)⟩,
  ⟨some 16, none, false, .call false (.c (.fn i_lease_Programme_valid [] [])) [(.t 15)]⟩,
  ⟨some 17, none, false, .un .not (.t 16)⟩,
  ⟨some 18, none, false, .mv (.t 17)⟩,
  ⟨some 19, some (18, false), false, .ld true 5 (.t 3)⟩,
  ⟨some 20, some (18, false), false, .mv (.t 1)⟩,
  ⟨some 21, some (18, false), false, .call false (.c (.fn i_lease_Programme_planned [] [])) [(.t 19), (.t 20)]⟩,
  ⟨some 22, some (18, false), false, .un .not (.t 21)⟩,
  ⟨some 23, none, false, .pick (.t 18) (.c (.bool true)) (.t 22)⟩,
  ⟨some 24, none, false, .mv (.t 23)⟩,
  ⟨some 25, some (24, false), false, .mv (.t 2)⟩,
  ⟨some 26, some (24, false), false, .lenS (.t 25)⟩,
  ⟨some 27, some (24, false), false, .fadr 4 (.t 3)⟩,
  ⟨some 28, some (24, false), false, .ld false 1 (.t 27)⟩,
  ⟨some 29, some (24, false), false, .lenS (.t 28)⟩,
  ⟨some 30, some (24, false), false, .bin .neq (.t 26) (.t 29)⟩,
  ⟨some 31, none, false, .pick (.t 24) (.c (.bool true)) (.t 30)⟩,
  ⟨some 32, none, false, .mv (.t 31)⟩,
  ⟨some 33, some (32, false), false, .mv (.t 2)⟩,
  ⟨some 34, some (32, false), false, .call false (.c (.fn i_lease_all_L_lease_Rung [] [])) [(.t 33), (.c (.fn i_lease_ProveDrill_1 [] []))]⟩,
  ⟨some 35, some (32, false), false, .un .not (.t 34)⟩,
  ⟨some 36, none, false, .pick (.t 32) (.c (.bool true)) (.t 35)⟩]

def f_lease_ProveDrill_r2 : List Abs.Op := [
  ⟨some 6, none, false, .mv (.c (.bool false))⟩]

def f_lease_ProveDrill_r3 : List Abs.Op := [
  ⟨some 38, none, false, .ld true 5 (.t 3)⟩,
  ⟨some 39, none, false, .mv (.t 1)⟩,
  ⟨some 40, none, false, .call false (.c (.fn i_lease_Programme_follow [] [])) [(.t 38), (.t 39), (.c (.fn i_lease_ProveDrill_2 [] []))]⟩,
  ⟨some 37, none, false, .mv (.t 40)⟩,
  ⟨some 41, none, false, .ext (.t 37) 0⟩,
  ⟨some 42, none, false, .ext (.t 37) 1⟩,
  ⟨some 7, none, false, .mv (.t 41)⟩,
  ⟨some 8, none, false, .mv (.t 42)⟩]

def f_lease_ProveDrill_r4 : List Abs.Op := [
  ⟨some 43, none, true, .mv (.t 8)⟩,
  ⟨some 44, none, true, .un .not (.t 43)⟩,
  ⟨some 45, none, true, .mv (.t 44)⟩,
  ⟨some 46, some (45, false), true, .mv (.t 2)⟩,
  ⟨some 47, some (45, false), true, .idxS 1 (.t 46) (.c (.int .i64 0))⟩,
  ⟨some 48, some (45, false), true, .ld false 1 (.t 47)⟩,
  ⟨some 49, some (45, false), true, .fadr 0 (.t 3)⟩,
  ⟨some 50, some (45, false), true, .ld false 1 (.t 49)⟩,
  ⟨some 51, some (45, false), true, .call false (.c (.fn i_lease_ladder_at [] [])) [(.t 48), (.t 50)]⟩,
  ⟨some 52, some (45, false), true, .mv (.t 7)⟩,
  ⟨some 53, some (45, false), false, .bin .neq (.t 51) (.t 52)⟩,
  ⟨some 54, none, false, .pick (.t 45) (.c (.bool true)) (.t 53)⟩]

def f_lease_ProveDrill_r5 : List Abs.Op := [
  ⟨some 6, none, false, .mv (.c (.bool false))⟩]

def f_lease_ProveDrill_r6 : List Abs.Op := [
  ⟨some 55, none, false, .ld true 5 (.t 3)⟩,
  ⟨some 56, none, false, .bld [(.int .i64 0), (.int .i64 0), (.int .i64 0), (.int .i64 0), .nils] [(0, 5, (.t 55))]⟩,
  ⟨some 9, none, false, .alcv [] [(.int .i64 0), (.int .i64 0), (.int .i64 0), (.int .i64 0), .nils]⟩,
  ⟨none, none, false, .stv 9 [] 5 9 (.t 56)⟩]

def f_lease_ProveDrill_r7 : List Abs.Op := [
  ⟨some 57, none, false, .mv (.t 2)⟩,
  ⟨some 58, none, false, .lenS (.t 57)⟩,
  ⟨some 59, none, false, .mv (.c (.int .i64 0))⟩]

def f_lease_ProveDrill_r8 : List Abs.Op := [
  ⟨some 60, none, false, .bin .lss (.t 59) (.t 58)⟩]

def f_lease_ProveDrill_r9 : List Abs.Op := [
  ⟨some 61, none, false, .mv (.t 59)⟩,
  ⟨some 62, none, false, .idxS 1 (.t 57) (.t 59)⟩,
  ⟨some 63, none, false, .ld false 1 (.t 62)⟩,
  ⟨some 10, none, false, .mv (.t 61)⟩,
  ⟨some 11, none, false, .mv (.t 63)⟩]

def f_lease_ProveDrill_r10 : List Abs.Op := [
  ⟨some 64, none, false, .bld [(.int .i64 0), (.int .i64 0)] [(0, 1, (.c (.int .i64 100000000))), (1, 1, (.c (.int .i64 0)))]⟩,
  ⟨some 65, none, false, .bsi 1 2 [(.int .i64 0), (.int .i64 0)] [(0, 2, (.t 64))]⟩,
  ⟨some 12, none, false, .mv (.t 65)⟩]

def f_lease_ProveDrill_r11 : List Abs.Op := [
  ⟨some 66, none, false, .mv (.t 10)⟩,
  ⟨some 67, none, false, .bin .add (.t 66) (.c (.int .i64 1))⟩,
  ⟨some 68, none, false, .mv (.t 2)⟩,
  ⟨some 69, none, false, .lenS (.t 68)⟩,
  ⟨some 70, none, false, .bin .lss (.t 67) (.t 69)⟩]

def f_lease_ProveDrill_r12 : List Abs.Op := [
  ⟨some 71, none, false, .mv (.t 2)⟩,
  ⟨some 72, none, false, .mv (.t 10)⟩,
  ⟨some 73, none, false, .bin .add (.t 72) (.c (.int .i64 1))⟩,
  ⟨some 74, none, false, .idxS 1 (.t 71) (.t 73)⟩,
  ⟨some 75, none, false, .ld false 1 (.t 74)⟩,
  ⟨some 12, none, false, .mv (.t 75)⟩]

def f_lease_ProveDrill_r13 : List Abs.Op := [
  ⟨some 76, none, false, .mv (.t 11)⟩,
  ⟨some 77, none, false, .lenS (.t 76)⟩,
  ⟨some 78, none, false, .mv (.c (.int .i64 0))⟩]

def f_lease_ProveDrill_r14 : List Abs.Op := [
  ⟨some 79, none, false, .bin .lss (.t 78) (.t 77)⟩]

def f_lease_ProveDrill_r15 : List Abs.Op := [
  ⟨some 80, none, false, .idxS 2 (.t 76) (.t 78)⟩,
  ⟨some 81, none, false, .ld true 2 (.t 80)⟩,
  ⟨some 14, none, false, .alcv [] [(.int .i64 0), (.int .i64 0)]⟩,
  ⟨none, none, false, .stv 14 [] 2 14 (.t 81)⟩]

def f_lease_ProveDrill_r16 : List Abs.Op := [
  ⟨some 82, none, true, .fadr 1 (.t 14)⟩,
  ⟨some 83, none, true, .ldv 14 false 1 82⟩,
  ⟨some 84, none, true, .ldv 9 true 5 9⟩,
  ⟨some 85, none, true, .mv (.t 10)⟩,
  ⟨some 86, none, true, .fadr 0 (.t 14)⟩,
  ⟨some 87, none, true, .ldv 14 false 1 86⟩,
  ⟨some 88, none, true, .mv (.t 12)⟩,
  ⟨some 89, none, true, .call false (.c (.fn i_lease_work_least [] [])) [(.t 84), (.t 85), (.t 87), (.t 88)]⟩,
  ⟨some 90, none, false, .bin .gtr (.t 83) (.t 89)⟩]

def f_lease_ProveDrill_r17 : List Abs.Op := [
  ⟨some 6, none, false, .mv (.c (.bool false))⟩]

def f_lease_ProveDrill_r18 : List Abs.Op := [
  ⟨some 91, none, false, .bin .add (.t 78) (.c (.int .i64 1))⟩,
  ⟨some 78, none, false, .mv (.t 91)⟩]

def f_lease_ProveDrill_l19 : Abs.Cmd :=
  (.seq (.reg [2, 9, 10, 12, 57, 58, 59, 76, 77, 78, 79] f_lease_ProveDrill_r14) (.seq (.ite (.t 79) .nop (.exit 2)) (.seq (.blk 3 (.seq (.reg [2, 9, 10, 12, 14, 57, 58, 59, 76, 77, 78] f_lease_ProveDrill_r15) (.seq (.reg [2, 9, 10, 12, 57, 58, 59, 76, 77, 78, 90] f_lease_ProveDrill_r16) (.ite (.t 90) (.seq (.reg [6] f_lease_ProveDrill_r17) .ret) .nop)))) (.reg [2, 9, 10, 12, 57, 58, 59, 76, 77, 78] f_lease_ProveDrill_r18))))

def f_lease_ProveDrill_r20 : List Abs.Op := [
  ⟨some 92, none, false, .bin .add (.t 59) (.c (.int .i64 1))⟩,
  ⟨some 59, none, false, .mv (.t 92)⟩]

def f_lease_ProveDrill_l21 : Abs.Cmd :=
  (.seq (.reg [2, 9, 57, 58, 59, 60] f_lease_ProveDrill_r8) (.seq (.ite (.t 60) .nop (.exit 0)) (.seq (.blk 1 (.seq (.reg [2, 9, 10, 11, 57, 58, 59] f_lease_ProveDrill_r9) (.seq (.reg [2, 9, 10, 11, 12, 57, 58, 59] f_lease_ProveDrill_r10) (.seq (.seq (.reg [2, 9, 10, 11, 12, 57, 58, 59, 70] f_lease_ProveDrill_r11) (.ite (.t 70) (.reg [2, 9, 10, 11, 12, 57, 58, 59] f_lease_ProveDrill_r12) .nop)) (.seq (.reg [2, 9, 10, 12, 57, 58, 59, 76, 77, 78] f_lease_ProveDrill_r13) (.blk 2 (.loop [2, 9, 10, 12, 57, 58, 59, 76, 77, 78] false f_lease_ProveDrill_l19))))))) (.reg [2, 9, 57, 58, 59] f_lease_ProveDrill_r20))))

def f_lease_ProveDrill_r22 : List Abs.Op := [
  ⟨some 6, none, false, .mv (.c (.bool true))⟩]

def a_lease_ProveDrill : Ann := ⟨[(20, [6]), (19, [2, 9, 57, 58, 59]), (18, [2, 9, 10, 12, 57, 58, 59, 76, 77, 78]), (17, [6]), (16, [2, 9, 10, 12, 57, 58, 59, 76, 77, 78, 90]), (15, [2, 9, 10, 12, 14, 57, 58, 59, 76, 77, 78]), (14, [2, 9, 10, 12, 57, 58, 59, 76, 77, 78, 79]), (13, [2, 9, 10, 12, 57, 58, 59, 76, 77, 78]), (12, [2, 9, 10, 11, 12, 57, 58, 59]), (11, [2, 9, 10, 11, 12, 57, 58, 59, 70]), (10, [2, 9, 10, 11, 12, 57, 58, 59]), (9, [2, 9, 10, 11, 57, 58, 59]), (8, [2, 9, 57, 58, 59, 60]), (7, [2, 9, 57, 58, 59]), (6, [2, 9]), (5, [6]), (4, [2, 3, 54]), (3, [2, 3, 7, 8]), (2, [6]), (1, [1, 2, 3, 36]), (0, [1, 2, 3])], [(2, [2, 9, 10, 12, 57, 58, 59, 76, 77, 78]), (0, [2, 9, 57, 58, 59])], [], [9, 14], [9, 14], [], [], [], [], []⟩
def f_lease_ProveDrill : Abs.Fn := ⟨3, [.t 6],
  (.seq (.reg [1, 2, 3] f_lease_ProveDrill_r0) (.seq (.seq (.reg [1, 2, 3, 36] f_lease_ProveDrill_r1) (.ite (.t 36) (.seq (.reg [6] f_lease_ProveDrill_r2) .ret) .nop)) (.seq (.reg [2, 3, 7, 8] f_lease_ProveDrill_r3) (.seq (.seq (.reg [2, 3, 54] f_lease_ProveDrill_r4) (.ite (.t 54) (.seq (.reg [6] f_lease_ProveDrill_r5) .ret) .nop)) (.seq (.reg [2, 9] f_lease_ProveDrill_r6) (.seq (.seq (.reg [2, 9, 57, 58, 59] f_lease_ProveDrill_r7) (.blk 0 (.loop [2, 9, 57, 58, 59] false f_lease_ProveDrill_l21))) (.seq (.reg [6] f_lease_ProveDrill_r22) .ret)))))))⟩

theorem e_lease_ProveDrill_r0 : type_of% f_lease_ProveDrill_r0.eq_1 := by_rfl f_lease_ProveDrill_r0.eq_1
theorem e_lease_ProveDrill_r1 : type_of% f_lease_ProveDrill_r1.eq_1 := by_rfl f_lease_ProveDrill_r1.eq_1
theorem e_lease_ProveDrill_r2 : type_of% f_lease_ProveDrill_r2.eq_1 := by_rfl f_lease_ProveDrill_r2.eq_1
theorem e_lease_ProveDrill_r3 : type_of% f_lease_ProveDrill_r3.eq_1 := by_rfl f_lease_ProveDrill_r3.eq_1
theorem e_lease_ProveDrill_r4 : type_of% f_lease_ProveDrill_r4.eq_1 := by_rfl f_lease_ProveDrill_r4.eq_1
theorem e_lease_ProveDrill_r5 : type_of% f_lease_ProveDrill_r5.eq_1 := by_rfl f_lease_ProveDrill_r5.eq_1
theorem e_lease_ProveDrill_r6 : type_of% f_lease_ProveDrill_r6.eq_1 := by_rfl f_lease_ProveDrill_r6.eq_1
theorem e_lease_ProveDrill_r7 : type_of% f_lease_ProveDrill_r7.eq_1 := by_rfl f_lease_ProveDrill_r7.eq_1
theorem e_lease_ProveDrill_r8 : type_of% f_lease_ProveDrill_r8.eq_1 := by_rfl f_lease_ProveDrill_r8.eq_1
theorem e_lease_ProveDrill_r9 : type_of% f_lease_ProveDrill_r9.eq_1 := by_rfl f_lease_ProveDrill_r9.eq_1
theorem e_lease_ProveDrill_r10 : type_of% f_lease_ProveDrill_r10.eq_1 := by_rfl f_lease_ProveDrill_r10.eq_1
theorem e_lease_ProveDrill_r11 : type_of% f_lease_ProveDrill_r11.eq_1 := by_rfl f_lease_ProveDrill_r11.eq_1
theorem e_lease_ProveDrill_r12 : type_of% f_lease_ProveDrill_r12.eq_1 := by_rfl f_lease_ProveDrill_r12.eq_1
theorem e_lease_ProveDrill_r13 : type_of% f_lease_ProveDrill_r13.eq_1 := by_rfl f_lease_ProveDrill_r13.eq_1
theorem e_lease_ProveDrill_r14 : type_of% f_lease_ProveDrill_r14.eq_1 := by_rfl f_lease_ProveDrill_r14.eq_1
theorem e_lease_ProveDrill_r15 : type_of% f_lease_ProveDrill_r15.eq_1 := by_rfl f_lease_ProveDrill_r15.eq_1
theorem e_lease_ProveDrill_r16 : type_of% f_lease_ProveDrill_r16.eq_1 := by_rfl f_lease_ProveDrill_r16.eq_1
theorem e_lease_ProveDrill_r17 : type_of% f_lease_ProveDrill_r17.eq_1 := by_rfl f_lease_ProveDrill_r17.eq_1
theorem e_lease_ProveDrill_r18 : type_of% f_lease_ProveDrill_r18.eq_1 := by_rfl f_lease_ProveDrill_r18.eq_1
theorem e_lease_ProveDrill_l19 : type_of% f_lease_ProveDrill_l19.eq_1 := by_rfl f_lease_ProveDrill_l19.eq_1
theorem e_lease_ProveDrill_r20 : type_of% f_lease_ProveDrill_r20.eq_1 := by_rfl f_lease_ProveDrill_r20.eq_1
theorem e_lease_ProveDrill_l21 : type_of% f_lease_ProveDrill_l21.eq_1 := by_rfl f_lease_ProveDrill_l21.eq_1
theorem e_lease_ProveDrill_r22 : type_of% f_lease_ProveDrill_r22.eq_1 := by_rfl f_lease_ProveDrill_r22.eq_1
theorem e_lease_ProveDrill : type_of% f_lease_ProveDrill.eq_1 := by_rfl f_lease_ProveDrill.eq_1
theorem ok_lease_ProveDrill : fnC Tryz.prog a_lease_ProveDrill Tryz.f39 = some f_lease_ProveDrill := by kernel_rfl

/-! 40 fumarole/lease.Outlook -/
def f_lease_Outlook_r0 : List Abs.Op := [
  ⟨some 2, none, false, .boxi (.t 0)⟩,
  ⟨some 4, none, false, .alc [(0, 1)] [.nils]⟩,
  ⟨some 5, none, false, .mv (.c (.int .i64 0))⟩,
  ⟨some 6, none, false, .mv (.c (.int .i64 0))⟩]

def f_lease_Outlook_r1 : List Abs.Op := [
  ⟨some 9, none, false, .ld true 5 (.t 2)⟩,
  ⟨some 10, none, false, .call false (.c (.fn i_lease_Programme_valid [] [])) [(.t 9)]⟩,
  ⟨some 11, none, false, .un .not (.t 10)⟩,
  ⟨some 8, none, false, .mv (.t 11)⟩]

def f_lease_Outlook_r2 : List Abs.Op := [
  ⟨none, none, false, .st [(0, 1)] 1 (.t 4) (.c .nils)⟩,
  ⟨some 5, none, false, .mv (.c (.int .i64 0))⟩,
  ⟨some 6, none, false, .mv (.c (.int .i64 1))⟩]

def f_lease_Outlook_r3 : List Abs.Op := [
  ⟨some 13, none, false, .ld true 5 (.t 2)⟩,
  ⟨some 14, none, false, .mv (.t 1)⟩,
  ⟨some 15, none, false, .call false (.c (.fn i_lease_Programme_planned [] [])) [(.t 13), (.t 14)]⟩,
  ⟨some 16, none, false, .un .not (.t 15)⟩,
  ⟨some 12, none, false, .mv (.t 16)⟩]

def f_lease_Outlook_r4 : List Abs.Op := [
  ⟨none, none, false, .st [(0, 1)] 1 (.t 4) (.c .nils)⟩,
  ⟨some 5, none, false, .mv (.c (.int .i64 0))⟩,
  ⟨some 6, none, false, .mv (.c (.int .i64 2))⟩]

def f_lease_Outlook_r5 : List Abs.Op := [
  ⟨some 18, none, false, .ld true 5 (.t 2)⟩,
  ⟨some 19, none, false, .mv (.t 1)⟩,
  ⟨some 20, none, false, .mkf i_lease_Outlook_1 [] [(.t 4)]⟩,
  ⟨some 21, none, false, .call false (.c (.fn i_lease_Programme_follow [] [])) [(.t 18), (.t 19), (.t 20)]⟩,
  ⟨some 17, none, false, .mv (.t 21)⟩,
  ⟨some 22, none, false, .ext (.t 17) 0⟩,
  ⟨some 23, none, false, .ext (.t 17) 1⟩,
  ⟨some 5, none, false, .mv (.t 22)⟩,
  ⟨some 7, none, false, .mv (.t 23)⟩]

def f_lease_Outlook_r6 : List Abs.Op := [
  ⟨some 24, none, false, .mv (.t 7)⟩,
  ⟨some 25, none, false, .un .not (.t 24)⟩]

def f_lease_Outlook_r7 : List Abs.Op := [
  ⟨none, none, false, .st [(0, 1)] 1 (.t 4) (.c .nils)⟩,
  ⟨some 5, none, false, .mv (.c (.int .i64 0))⟩,
  ⟨some 6, none, false, .mv (.c (.int .i64 9))⟩]

def f_lease_Outlook_r8 : List Abs.Op := [
  ⟨some 26, none, false, .ld false 1 (.t 4)⟩,
  ⟨some 27, none, false, .mv (.t 5)⟩,
  ⟨none, none, false, .st [(0, 1)] 1 (.t 4) (.t 26)⟩,
  ⟨some 5, none, false, .mv (.t 27)⟩,
  ⟨some 6, none, false, .mv (.c (.int .i64 0))⟩]

def a_lease_Outlook : Ann := ⟨[(8, [4, 5, 6]), (7, [4, 5, 6]), (6, [4, 5, 25]), (5, [4, 5, 7]), (2, [4, 5, 6]), (4, [4, 5, 6]), (3, [1, 2, 4, 12]), (1, [1, 2, 4, 8]), (0, [1, 2, 4])], [], [], [4], [], [(1, [(0, 1)]), (2000, [(0, 1)]), (4000, [(0, 1)]), (7000, [(0, 1)]), (8002, [(0, 1)])], [], [], [], []⟩
def f_lease_Outlook : Abs.Fn := ⟨2, [.c 4 false 1, .t 5, .t 6],
  (.seq (.reg [1, 2, 4] f_lease_Outlook_r0) (.seq (.blk 0 (.seq (.reg [1, 2, 4, 8] f_lease_Outlook_r1) (.ite (.t 8) (.seq (.reg [4, 5, 6] f_lease_Outlook_r2) .ret) (.seq (.reg [1, 2, 4, 12] f_lease_Outlook_r3) (.ite (.t 12) (.seq (.reg [4, 5, 6] f_lease_Outlook_r4) .ret) .nop))))) (.seq (.reg [4, 5, 7] f_lease_Outlook_r5) (.seq (.seq (.reg [4, 5, 25] f_lease_Outlook_r6) (.ite (.t 25) (.seq (.reg [4, 5, 6] f_lease_Outlook_r7) .ret) .nop)) (.seq (.reg [4, 5, 6] f_lease_Outlook_r8) .ret)))))⟩

theorem e_lease_Outlook_r0 : type_of% f_lease_Outlook_r0.eq_1 := by_rfl f_lease_Outlook_r0.eq_1
theorem e_lease_Outlook_r1 : type_of% f_lease_Outlook_r1.eq_1 := by_rfl f_lease_Outlook_r1.eq_1
theorem e_lease_Outlook_r2 : type_of% f_lease_Outlook_r2.eq_1 := by_rfl f_lease_Outlook_r2.eq_1
theorem e_lease_Outlook_r3 : type_of% f_lease_Outlook_r3.eq_1 := by_rfl f_lease_Outlook_r3.eq_1
theorem e_lease_Outlook_r4 : type_of% f_lease_Outlook_r4.eq_1 := by_rfl f_lease_Outlook_r4.eq_1
theorem e_lease_Outlook_r5 : type_of% f_lease_Outlook_r5.eq_1 := by_rfl f_lease_Outlook_r5.eq_1
theorem e_lease_Outlook_r6 : type_of% f_lease_Outlook_r6.eq_1 := by_rfl f_lease_Outlook_r6.eq_1
theorem e_lease_Outlook_r7 : type_of% f_lease_Outlook_r7.eq_1 := by_rfl f_lease_Outlook_r7.eq_1
theorem e_lease_Outlook_r8 : type_of% f_lease_Outlook_r8.eq_1 := by_rfl f_lease_Outlook_r8.eq_1
theorem e_lease_Outlook : type_of% f_lease_Outlook.eq_1 := by_rfl f_lease_Outlook.eq_1
theorem ok_lease_Outlook : fnC Tryz.prog a_lease_Outlook Tryz.f40 = some f_lease_Outlook := by kernel_rfl

/-! 41 fumarole/lease.Short -/
def f_lease_Short_r0 : List Abs.Op := [
  ⟨some 1, none, false, .boxi (.t 0)⟩,
  ⟨some 2, none, false, .mv (.c (.int .i64 0))⟩,
  ⟨some 3, none, false, .mv (.c (.int .i64 0))⟩]

def f_lease_Short_r1 : List Abs.Op := [
  ⟨some 6, none, false, .ld true 5 (.t 1)⟩,
  ⟨some 7, none, false, .call false (.c (.fn i_lease_Programme_valid [] [])) [(.t 6)]⟩,
  ⟨some 8, none, false, .un .not (.t 7)⟩]

def f_lease_Short_r2 : List Abs.Op := [
  ⟨some 2, none, false, .mv (.c (.int .i64 0))⟩,
  ⟨some 3, none, false, .mv (.c (.int .i64 1))⟩]

def f_lease_Short_r3 : List Abs.Op := [
  ⟨some 9, none, false, .fadr 0 (.t 1)⟩,
  ⟨some 10, none, false, .ld false 1 (.t 9)⟩,
  ⟨some 4, none, false, .mv (.t 10)⟩]

def f_lease_Short_r4 : List Abs.Op := [
  ⟨some 11, none, false, .fadr 4 (.t 1)⟩,
  ⟨some 12, none, false, .ld false 1 (.t 11)⟩,
  ⟨some 13, none, false, .lenS (.t 12)⟩,
  ⟨some 14, none, false, .mv (.c (.int .i64 0))⟩]

def f_lease_Short_r5 : List Abs.Op := [
  ⟨some 15, none, false, .bin .lss (.t 14) (.t 13)⟩]

def f_lease_Short_r6 : List Abs.Op := [
  ⟨some 16, none, false, .mv (.t 14)⟩,
  ⟨some 5, none, false, .mv (.t 16)⟩]

def f_lease_Short_r7 : List Abs.Op := [
  ⟨some 17, none, false, .ld true 5 (.t 1)⟩,
  ⟨some 18, none, false, .mv (.t 5)⟩,
  ⟨some 19, none, false, .mv (.t 4)⟩,
  ⟨some 20, none, false, .fadr 3 (.t 1)⟩,
  ⟨some 21, none, false, .ld false 1 (.t 20)⟩,
  ⟨some 22, none, false, .call false (.c (.fn i_lease_Programme_meets [] [])) [(.t 17), (.t 18), (.t 19), (.t 21)]⟩,
  ⟨some 23, none, false, .un .not (.t 22)⟩]

def f_lease_Short_r8 : List Abs.Op := [
  ⟨some 24, none, false, .mv (.t 5)⟩,
  ⟨some 2, none, false, .mv (.t 24)⟩,
  ⟨some 3, none, false, .mv (.c (.int .i64 0))⟩]

def f_lease_Short_r9 : List Abs.Op := [
  ⟨some 25, none, false, .ld true 5 (.t 1)⟩,
  ⟨some 26, none, false, .mv (.t 4)⟩,
  ⟨some 27, none, false, .fadr 3 (.t 1)⟩,
  ⟨some 28, none, false, .ld false 1 (.t 27)⟩,
  ⟨some 29, none, false, .call false (.c (.fn i_lease_Programme_after [] [])) [(.t 25), (.t 26), (.t 28)]⟩,
  ⟨some 4, none, false, .mv (.t 29)⟩]

def f_lease_Short_r10 : List Abs.Op := [
  ⟨some 30, none, false, .bin .add (.t 14) (.c (.int .i64 1))⟩,
  ⟨some 14, none, false, .mv (.t 30)⟩]

def f_lease_Short_l11 : Abs.Cmd :=
  (.seq (.reg [1, 4, 13, 14, 15] f_lease_Short_r5) (.seq (.ite (.t 15) .nop (.exit 0)) (.seq (.blk 1 (.seq (.reg [1, 4, 5, 13, 14] f_lease_Short_r6) (.seq (.seq (.reg [1, 4, 5, 13, 14, 23] f_lease_Short_r7) (.ite (.t 23) (.seq (.reg [2, 3] f_lease_Short_r8) .ret) .nop)) (.reg [1, 4, 13, 14] f_lease_Short_r9)))) (.reg [1, 4, 13, 14] f_lease_Short_r10))))

def f_lease_Short_r12 : List Abs.Op := [
  ⟨some 2, none, false, .mv (.c (.int .i64 0))⟩,
  ⟨some 3, none, false, .mv (.c (.int .i64 7))⟩]

def a_lease_Short : Ann := ⟨[(11, [2, 3]), (10, [1, 4, 13, 14]), (9, [1, 4, 13, 14]), (8, [2, 3]), (7, [1, 4, 5, 13, 14, 23]), (6, [1, 4, 5, 13, 14]), (5, [1, 4, 13, 14, 15]), (4, [1, 4, 13, 14]), (3, [1, 4]), (2, [2, 3]), (1, [1, 8]), (0, [1])], [(0, [1, 4, 13, 14])], [], [], [], [], [], [], [], []⟩
def f_lease_Short : Abs.Fn := ⟨1, [.t 2, .t 3],
  (.seq (.reg [1] f_lease_Short_r0) (.seq (.seq (.reg [1, 8] f_lease_Short_r1) (.ite (.t 8) (.seq (.reg [2, 3] f_lease_Short_r2) .ret) .nop)) (.seq (.reg [1, 4] f_lease_Short_r3) (.seq (.seq (.reg [1, 4, 13, 14] f_lease_Short_r4) (.blk 0 (.loop [1, 4, 13, 14] false f_lease_Short_l11))) (.seq (.reg [2, 3] f_lease_Short_r12) .ret)))))⟩

theorem e_lease_Short_r0 : type_of% f_lease_Short_r0.eq_1 := by_rfl f_lease_Short_r0.eq_1
theorem e_lease_Short_r1 : type_of% f_lease_Short_r1.eq_1 := by_rfl f_lease_Short_r1.eq_1
theorem e_lease_Short_r2 : type_of% f_lease_Short_r2.eq_1 := by_rfl f_lease_Short_r2.eq_1
theorem e_lease_Short_r3 : type_of% f_lease_Short_r3.eq_1 := by_rfl f_lease_Short_r3.eq_1
theorem e_lease_Short_r4 : type_of% f_lease_Short_r4.eq_1 := by_rfl f_lease_Short_r4.eq_1
theorem e_lease_Short_r5 : type_of% f_lease_Short_r5.eq_1 := by_rfl f_lease_Short_r5.eq_1
theorem e_lease_Short_r6 : type_of% f_lease_Short_r6.eq_1 := by_rfl f_lease_Short_r6.eq_1
theorem e_lease_Short_r7 : type_of% f_lease_Short_r7.eq_1 := by_rfl f_lease_Short_r7.eq_1
theorem e_lease_Short_r8 : type_of% f_lease_Short_r8.eq_1 := by_rfl f_lease_Short_r8.eq_1
theorem e_lease_Short_r9 : type_of% f_lease_Short_r9.eq_1 := by_rfl f_lease_Short_r9.eq_1
theorem e_lease_Short_r10 : type_of% f_lease_Short_r10.eq_1 := by_rfl f_lease_Short_r10.eq_1
theorem e_lease_Short_l11 : type_of% f_lease_Short_l11.eq_1 := by_rfl f_lease_Short_l11.eq_1
theorem e_lease_Short_r12 : type_of% f_lease_Short_r12.eq_1 := by_rfl f_lease_Short_r12.eq_1
theorem e_lease_Short : type_of% f_lease_Short.eq_1 := by_rfl f_lease_Short.eq_1
theorem ok_lease_Short : fnC Tryz.prog a_lease_Short Tryz.f41 = some f_lease_Short := by kernel_rfl

/-! 42 fumarole/lease.CheckProgramme -/
def f_lease_CheckProgramme_r0 : List Abs.Op := [
  ⟨some 1, none, false, .boxi (.t 0)⟩,
  ⟨some 2, none, false, .mv (.c (.int .i64 0))⟩]

def f_lease_CheckProgramme_r1 : List Abs.Op := [
  ⟨some 3, none, false, .ld true 5 (.t 1)⟩,
  ⟨some 4, none, false, .call false (.c (.fn i_lease_Programme_valid [] [])) [(.t 3)]⟩,
  ⟨some 5, none, false, .un .not (.t 4)⟩]

def f_lease_CheckProgramme_r2 : List Abs.Op := [
  ⟨some 2, none, false, .mv (.c (.int .i64 1))⟩]

def f_lease_CheckProgramme_r3 : List Abs.Op := [
  ⟨some 2, none, false, .mv (.c (.int .i64 0))⟩]

def a_lease_CheckProgramme : Ann := ⟨[(3, [2]), (2, [2]), (1, [5]), (0, [1])], [], [], [], [], [], [], [], [], []⟩
def f_lease_CheckProgramme : Abs.Fn := ⟨1, [.t 2],
  (.seq (.reg [1] f_lease_CheckProgramme_r0) (.seq (.seq (.reg [5] f_lease_CheckProgramme_r1) (.ite (.t 5) (.seq (.reg [2] f_lease_CheckProgramme_r2) .ret) .nop)) (.seq (.reg [2] f_lease_CheckProgramme_r3) .ret)))⟩

theorem e_lease_CheckProgramme_r0 : type_of% f_lease_CheckProgramme_r0.eq_1 := by_rfl f_lease_CheckProgramme_r0.eq_1
theorem e_lease_CheckProgramme_r1 : type_of% f_lease_CheckProgramme_r1.eq_1 := by_rfl f_lease_CheckProgramme_r1.eq_1
theorem e_lease_CheckProgramme_r2 : type_of% f_lease_CheckProgramme_r2.eq_1 := by_rfl f_lease_CheckProgramme_r2.eq_1
theorem e_lease_CheckProgramme_r3 : type_of% f_lease_CheckProgramme_r3.eq_1 := by_rfl f_lease_CheckProgramme_r3.eq_1
theorem e_lease_CheckProgramme : type_of% f_lease_CheckProgramme.eq_1 := by_rfl f_lease_CheckProgramme.eq_1
theorem ok_lease_CheckProgramme : fnC Tryz.prog a_lease_CheckProgramme Tryz.f42 = some f_lease_CheckProgramme := by kernel_rfl

/-! 43 fumarole/fumaroleref11.Short -/
def f_ref11_Short_r0 : List Abs.Op := [
  ⟨some 1, none, false, .boxi (.t 0)⟩,
  ⟨some 2, none, false, .mv (.c (.int .i64 0))⟩]

def f_ref11_Short_r1 : List Abs.Op := [
  ⟨some 6, none, false, .fadr 0 (.t 1)⟩,
  ⟨some 7, none, false, .ld false 1 (.t 6)⟩,
  ⟨some 3, none, false, .mv (.t 7)⟩]

def f_ref11_Short_r2 : List Abs.Op := [
  ⟨some 4, none, false, .mv (.c (.int .i64 0))⟩]

def f_ref11_Short_r3 : List Abs.Op := [
  ⟨some 8, none, false, .mv (.t 4)⟩,
  ⟨some 9, none, false, .fadr 4 (.t 1)⟩,
  ⟨some 10, none, false, .ld false 1 (.t 9)⟩,
  ⟨some 11, none, false, .lenS (.t 10)⟩,
  ⟨some 12, none, false, .bin .lss (.t 8) (.t 11)⟩]

def f_ref11_Short_r4 : List Abs.Op := [
  ⟨some 15, none, false, .mv (.t 3)⟩,
  ⟨some 16, none, false, .fadr 3 (.t 1)⟩,
  ⟨some 17, none, false, .ld false 1 (.t 16)⟩,
  ⟨some 18, none, false, .fadr 1 (.t 1)⟩,
  ⟨some 19, none, false, .ld false 1 (.t 18)⟩,
  ⟨some 20, none, false, .bin .mul (.t 17) (.t 19)⟩,
  ⟨some 21, none, false, .bin .add (.t 15) (.t 20)⟩,
  ⟨some 5, none, false, .mv (.t 21)⟩]

def f_ref11_Short_r5 : List Abs.Op := [
  ⟨some 22, none, false, .mv (.t 5)⟩,
  ⟨some 23, none, false, .fadr 4 (.t 1)⟩,
  ⟨some 24, none, false, .ld false 1 (.t 23)⟩,
  ⟨some 25, none, false, .mv (.t 4)⟩,
  ⟨some 26, none, false, .idxS 2 (.t 24) (.t 25)⟩,
  ⟨some 27, none, false, .fadr 0 (.t 26)⟩,
  ⟨some 28, none, false, .ld false 1 (.t 27)⟩,
  ⟨some 29, none, false, .bin .lss (.t 22) (.t 28)⟩]

def f_ref11_Short_r6 : List Abs.Op := [
  ⟨some 30, none, false, .mv (.t 4)⟩,
  ⟨some 2, none, false, .mv (.t 30)⟩]

def f_ref11_Short_r7 : List Abs.Op := [
  ⟨some 31, none, false, .mv (.t 5)⟩,
  ⟨some 32, none, false, .fadr 2 (.t 1)⟩,
  ⟨some 33, none, false, .ld false 1 (.t 32)⟩,
  ⟨some 34, none, false, .bin .mul (.t 31) (.t 33)⟩,
  ⟨some 35, none, false, .bin .quo (.t 34) (.c (.int .i64 1000))⟩,
  ⟨some 3, none, false, .mv (.t 35)⟩]

def f_ref11_Short_r8 : List Abs.Op := [
  ⟨some 13, none, false, .mv (.t 4)⟩,
  ⟨some 14, none, false, .bin .add (.t 13) (.c (.int .i64 1))⟩,
  ⟨some 4, none, false, .mv (.t 14)⟩]

def f_ref11_Short_l9 : Abs.Cmd :=
  (.seq (.seq (.reg [1, 3, 4, 12] f_ref11_Short_r3) (.ite (.t 12) .nop (.exit 0))) (.seq (.blk 1 (.seq (.reg [1, 4, 5] f_ref11_Short_r4) (.seq (.seq (.reg [1, 4, 5, 29] f_ref11_Short_r5) (.ite (.t 29) (.seq (.reg [2] f_ref11_Short_r6) .ret) .nop)) (.reg [1, 3, 4] f_ref11_Short_r7)))) (.reg [1, 3, 4] f_ref11_Short_r8)))

def f_ref11_Short_r10 : List Abs.Op := [
  ⟨some 2, none, false, .mv (.c (.int .i64 (-1)))⟩]

def a_ref11_Short : Ann := ⟨[(9, [2]), (4, [1, 3, 4]), (8, [1, 3, 4]), (7, [2]), (6, [1, 4, 5, 29]), (5, [1, 4, 5]), (3, [1, 3, 4, 12]), (2, [1, 3, 4]), (1, [1, 3]), (0, [1])], [(0, [1, 3, 4])], [], [], [], [], [], [], [], []⟩
def f_ref11_Short : Abs.Fn := ⟨1, [.t 2],
  (.seq (.reg [1] f_ref11_Short_r0) (.seq (.reg [1, 3] f_ref11_Short_r1) (.seq (.seq (.reg [1, 3, 4] f_ref11_Short_r2) (.blk 0 (.loop [1, 3, 4] false f_ref11_Short_l9))) (.seq (.reg [2] f_ref11_Short_r10) .ret))))⟩

theorem e_ref11_Short_r0 : type_of% f_ref11_Short_r0.eq_1 := by_rfl f_ref11_Short_r0.eq_1
theorem e_ref11_Short_r1 : type_of% f_ref11_Short_r1.eq_1 := by_rfl f_ref11_Short_r1.eq_1
theorem e_ref11_Short_r2 : type_of% f_ref11_Short_r2.eq_1 := by_rfl f_ref11_Short_r2.eq_1
theorem e_ref11_Short_r3 : type_of% f_ref11_Short_r3.eq_1 := by_rfl f_ref11_Short_r3.eq_1
theorem e_ref11_Short_r4 : type_of% f_ref11_Short_r4.eq_1 := by_rfl f_ref11_Short_r4.eq_1
theorem e_ref11_Short_r5 : type_of% f_ref11_Short_r5.eq_1 := by_rfl f_ref11_Short_r5.eq_1
theorem e_ref11_Short_r6 : type_of% f_ref11_Short_r6.eq_1 := by_rfl f_ref11_Short_r6.eq_1
theorem e_ref11_Short_r7 : type_of% f_ref11_Short_r7.eq_1 := by_rfl f_ref11_Short_r7.eq_1
theorem e_ref11_Short_r8 : type_of% f_ref11_Short_r8.eq_1 := by_rfl f_ref11_Short_r8.eq_1
theorem e_ref11_Short_l9 : type_of% f_ref11_Short_l9.eq_1 := by_rfl f_ref11_Short_l9.eq_1
theorem e_ref11_Short_r10 : type_of% f_ref11_Short_r10.eq_1 := by_rfl f_ref11_Short_r10.eq_1
theorem e_ref11_Short : type_of% f_ref11_Short.eq_1 := by_rfl f_ref11_Short.eq_1
theorem ok_ref11_Short : fnC Tryz.prog a_ref11_Short Tryz.f43 = some f_ref11_Short := by kernel_rfl

/-! 44 fumarole/fumaroleref11.Numbers -/
def f_ref11_Numbers_r0 : List Abs.Op := [
  ⟨some 2, none, false, .boxi (.t 0)⟩,
  ⟨some 4, none, false, .mv (.c (.bool false))⟩]

def f_ref11_Numbers_r1 : List Abs.Op := [
  ⟨some 5, none, false, .mv (.c (.int .i64 0))⟩]

def f_ref11_Numbers_r2 : List Abs.Op := [
  ⟨some 6, none, false, .mv (.t 5)⟩,
  ⟨some 7, none, false, .mv (.t 1)⟩,
  ⟨some 8, none, false, .lenS (.t 7)⟩,
  ⟨some 9, none, false, .bin .lss (.t 6) (.t 8)⟩]

def f_ref11_Numbers_r3 : List Abs.Op := [
  ⟨some 12, none, true, .mv (.t 1)⟩,
  ⟨some 13, none, true, .mv (.t 5)⟩,
  ⟨some 14, none, true, .idxS 1 (.t 12) (.t 13)⟩,
  ⟨some 15, none, true, .ld false 1 (.t 14)⟩,
  ⟨some 16, none, true, .fadr 3 (.t 2)⟩,
  ⟨some 17, none, true, .ld false 1 (.t 16)⟩,
  ⟨some 18, none, false, .call false (.c (.fn i_ref11_In [] [])) [(.t 15), (.c (.int .i64 0)), (.t 17)]⟩,
  ⟨some 19, none, false, .un .not (.t 18)⟩]

def f_ref11_Numbers_r4 : List Abs.Op := [
  ⟨some 4, none, false, .mv (.c (.bool false))⟩]

def f_ref11_Numbers_r5 : List Abs.Op := [
  ⟨some 10, none, false, .mv (.t 5)⟩,
  ⟨some 11, none, false, .bin .add (.t 10) (.c (.int .i64 1))⟩,
  ⟨some 5, none, false, .mv (.t 11)⟩]

def f_ref11_Numbers_l6 : Abs.Cmd :=
  (.seq (.seq (.reg [1, 2, 5, 9] f_ref11_Numbers_r2) (.ite (.t 9) .nop (.exit 0))) (.seq (.blk 1 (.seq (.reg [1, 2, 5, 19] f_ref11_Numbers_r3) (.ite (.t 19) (.seq (.reg [4] f_ref11_Numbers_r4) .ret) .nop))) (.reg [1, 2, 5] f_ref11_Numbers_r5)))

def f_ref11_Numbers_r7 : List Abs.Op := [
  ⟨some 20, none, false, .mv (.t 1)⟩,
  ⟨some 21, none, false, .lenS (.t 20)⟩,
  ⟨some 22, none, false, .fadr 4 (.t 2)⟩,
  ⟨some 23, none, false, .ld false 1 (.t 22)⟩,
  ⟨some 24, none, false, .lenS (.t 23)⟩,
  ⟨some 25, none, false, .bin .eql (.t 21) (.t 24)⟩,
  ⟨some 4, none, false, .mv (.t 25)⟩]

def a_ref11_Numbers : Ann := ⟨[(6, [4]), (3, [1, 2, 5]), (5, [4]), (4, [1, 2, 5, 19]), (2, [1, 2, 5, 9]), (1, [1, 2, 5]), (0, [1, 2])], [(0, [1, 2, 5])], [], [], [], [], [], [], [], []⟩
def f_ref11_Numbers : Abs.Fn := ⟨2, [.t 4],
  (.seq (.reg [1, 2] f_ref11_Numbers_r0) (.seq (.seq (.reg [1, 2, 5] f_ref11_Numbers_r1) (.blk 0 (.loop [1, 2, 5] false f_ref11_Numbers_l6))) (.seq (.reg [4] f_ref11_Numbers_r7) .ret)))⟩

theorem e_ref11_Numbers_r0 : type_of% f_ref11_Numbers_r0.eq_1 := by_rfl f_ref11_Numbers_r0.eq_1
theorem e_ref11_Numbers_r1 : type_of% f_ref11_Numbers_r1.eq_1 := by_rfl f_ref11_Numbers_r1.eq_1
theorem e_ref11_Numbers_r2 : type_of% f_ref11_Numbers_r2.eq_1 := by_rfl f_ref11_Numbers_r2.eq_1
theorem e_ref11_Numbers_r3 : type_of% f_ref11_Numbers_r3.eq_1 := by_rfl f_ref11_Numbers_r3.eq_1
theorem e_ref11_Numbers_r4 : type_of% f_ref11_Numbers_r4.eq_1 := by_rfl f_ref11_Numbers_r4.eq_1
theorem e_ref11_Numbers_r5 : type_of% f_ref11_Numbers_r5.eq_1 := by_rfl f_ref11_Numbers_r5.eq_1
theorem e_ref11_Numbers_l6 : type_of% f_ref11_Numbers_l6.eq_1 := by_rfl f_ref11_Numbers_l6.eq_1
theorem e_ref11_Numbers_r7 : type_of% f_ref11_Numbers_r7.eq_1 := by_rfl f_ref11_Numbers_r7.eq_1
theorem e_ref11_Numbers : type_of% f_ref11_Numbers.eq_1 := by_rfl f_ref11_Numbers.eq_1
theorem ok_ref11_Numbers : fnC Tryz.prog a_ref11_Numbers Tryz.f44 = some f_ref11_Numbers := by kernel_rfl

/-! 45 fumarole/fumaroleref11.Outlook -/
def f_ref11_Outlook_r0 : List Abs.Op := [
  ⟨some 2, none, false, .boxi (.t 0)⟩,
  ⟨some 4, none, false, .mv (.c .nils)⟩,
  ⟨some 5, none, false, .mv (.c (.int .i64 0))⟩,
  ⟨some 6, none, false, .mv (.c (.bool false))⟩]

def f_ref11_Outlook_r1 : List Abs.Op := [
  ⟨some 7, none, false, .nilb 1⟩]

def f_ref11_Outlook_r2 : List Abs.Op := [
  ⟨some 12, none, false, .fadr 0 (.t 2)⟩,
  ⟨some 13, none, false, .ld false 1 (.t 12)⟩,
  ⟨some 8, none, false, .mv (.t 13)⟩,
  ⟨some 9, none, false, .mv (.c (.int .i64 0))⟩]

def f_ref11_Outlook_r3 : List Abs.Op := [
  ⟨some 10, none, false, .mv (.c (.int .i64 0))⟩]

def f_ref11_Outlook_r4 : List Abs.Op := [
  ⟨some 14, none, false, .mv (.t 10)⟩,
  ⟨some 15, none, false, .mv (.t 1)⟩,
  ⟨some 16, none, false, .lenS (.t 15)⟩,
  ⟨some 17, none, false, .bin .lss (.t 14) (.t 16)⟩]

def f_ref11_Outlook_r5 : List Abs.Op := [
  ⟨some 20, none, true, .mv (.t 8)⟩,
  ⟨some 21, none, true, .mv (.t 1)⟩,
  ⟨some 22, none, true, .mv (.t 10)⟩,
  ⟨some 23, none, true, .idxS 1 (.t 21) (.t 22)⟩,
  ⟨some 24, none, true, .ld false 1 (.t 23)⟩,
  ⟨some 25, none, true, .fadr 1 (.t 2)⟩,
  ⟨some 26, none, true, .ld false 1 (.t 25)⟩,
  ⟨some 27, none, true, .bin .mul (.t 24) (.t 26)⟩,
  ⟨some 28, none, false, .bin .add (.t 20) (.t 27)⟩,
  ⟨some 11, none, false, .mv (.t 28)⟩]

def f_ref11_Outlook_r6 : List Abs.Op := [
  ⟨some 29, none, false, .mv (.t 11)⟩,
  ⟨some 30, none, false, .fadr 4 (.t 2)⟩,
  ⟨some 31, none, false, .ld false 1 (.t 30)⟩,
  ⟨some 32, none, false, .mv (.t 10)⟩,
  ⟨some 33, none, false, .idxS 2 (.t 31) (.t 32)⟩,
  ⟨some 34, none, false, .fadr 0 (.t 33)⟩,
  ⟨some 35, none, false, .ld false 1 (.t 34)⟩,
  ⟨some 36, none, false, .bin .lss (.t 29) (.t 35)⟩]

def f_ref11_Outlook_r7 : List Abs.Op := [
  ⟨some 4, none, false, .mv (.c .nils)⟩,
  ⟨some 5, none, false, .mv (.c (.int .i64 0))⟩,
  ⟨some 6, none, false, .mv (.c (.bool false))⟩]

def f_ref11_Outlook_r8 : List Abs.Op := [
  ⟨some 37, none, false, .mv (.t 7)⟩,
  ⟨some 38, none, false, .mv (.t 11)⟩,
  ⟨some 39, none, false, .bsi 1 1 [(.int .i64 0)] [(0, 1, (.t 38))]⟩,
  ⟨some 40, none, false, .app 1 8 (.t 37) (.t 39)⟩,
  ⟨some 7, none, false, .mv (.t 40)⟩]

def f_ref11_Outlook_r9 : List Abs.Op := [
  ⟨some 41, none, true, .mv (.t 9)⟩,
  ⟨some 42, none, true, .mv (.t 1)⟩,
  ⟨some 43, none, true, .mv (.t 10)⟩,
  ⟨some 44, none, true, .idxS 1 (.t 42) (.t 43)⟩,
  ⟨some 45, none, true, .ld false 1 (.t 44)⟩,
  ⟨some 46, none, true, .fadr 4 (.t 2)⟩,
  ⟨some 47, none, true, .ld false 1 (.t 46)⟩,
  ⟨some 48, none, true, .mv (.t 10)⟩,
  ⟨some 49, none, true, .idxS 2 (.t 47) (.t 48)⟩,
  ⟨some 50, none, true, .fadr 1 (.t 49)⟩,
  ⟨some 51, none, true, .ld false 1 (.t 50)⟩,
  ⟨some 52, none, true, .bin .mul (.t 45) (.t 51)⟩,
  ⟨some 53, none, false, .bin .add (.t 41) (.t 52)⟩,
  ⟨some 9, none, false, .mv (.t 53)⟩]

def f_ref11_Outlook_r10 : List Abs.Op := [
  ⟨some 54, none, false, .mv (.t 11)⟩,
  ⟨some 55, none, false, .fadr 2 (.t 2)⟩,
  ⟨some 56, none, false, .ld false 1 (.t 55)⟩,
  ⟨some 57, none, false, .bin .mul (.t 54) (.t 56)⟩,
  ⟨some 58, none, false, .bin .quo (.t 57) (.c (.int .i64 1000))⟩,
  ⟨some 8, none, false, .mv (.t 58)⟩]

def f_ref11_Outlook_r11 : List Abs.Op := [
  ⟨some 18, none, false, .mv (.t 10)⟩,
  ⟨some 19, none, false, .bin .add (.t 18) (.c (.int .i64 1))⟩,
  ⟨some 10, none, false, .mv (.t 19)⟩]

def f_ref11_Outlook_l12 : Abs.Cmd :=
  (.seq (.seq (.reg [1, 2, 7, 8, 9, 10, 17] f_ref11_Outlook_r4) (.ite (.t 17) .nop (.exit 0))) (.seq (.blk 1 (.seq (.reg [1, 2, 7, 9, 10, 11] f_ref11_Outlook_r5) (.seq (.seq (.reg [1, 2, 7, 9, 10, 11, 36] f_ref11_Outlook_r6) (.ite (.t 36) (.seq (.reg [4, 5, 6] f_ref11_Outlook_r7) .ret) .nop)) (.seq (.reg [1, 2, 7, 9, 10, 11] f_ref11_Outlook_r8) (.seq (.reg [1, 2, 7, 9, 10, 11] f_ref11_Outlook_r9) (.reg [1, 2, 7, 8, 9, 10] f_ref11_Outlook_r10)))))) (.reg [1, 2, 7, 8, 9, 10] f_ref11_Outlook_r11)))

def f_ref11_Outlook_r13 : List Abs.Op := [
  ⟨some 59, none, false, .mv (.t 7)⟩,
  ⟨some 60, none, false, .mv (.t 9)⟩,
  ⟨some 4, none, false, .mv (.t 59)⟩,
  ⟨some 5, none, false, .mv (.t 60)⟩,
  ⟨some 6, none, false, .mv (.c (.bool true))⟩]

def a_ref11_Outlook : Ann := ⟨[(12, [4, 5, 6]), (5, [1, 2, 7, 8, 9, 10]), (11, [1, 2, 7, 8, 9, 10]), (10, [1, 2, 7, 9, 10, 11]), (9, [1, 2, 7, 9, 10, 11]), (8, [4, 5, 6]), (7, [1, 2, 7, 9, 10, 11, 36]), (6, [1, 2, 7, 9, 10, 11]), (4, [1, 2, 7, 8, 9, 10, 17]), (3, [1, 2, 7, 8, 9, 10]), (2, [1, 2, 7, 8, 9]), (1, [1, 2, 7]), (0, [1, 2])], [(0, [1, 2, 7, 8, 9, 10])], [], [7], [], [], [], [], [], []⟩
def f_ref11_Outlook : Abs.Fn := ⟨2, [.t 4, .t 5, .t 6],
  (.seq (.reg [1, 2] f_ref11_Outlook_r0) (.seq (.reg [1, 2, 7] f_ref11_Outlook_r1) (.seq (.reg [1, 2, 7, 8, 9] f_ref11_Outlook_r2) (.seq (.seq (.reg [1, 2, 7, 8, 9, 10] f_ref11_Outlook_r3) (.blk 0 (.loop [1, 2, 7, 8, 9, 10] false f_ref11_Outlook_l12))) (.seq (.reg [4, 5, 6] f_ref11_Outlook_r13) .ret)))))⟩

theorem e_ref11_Outlook_r0 : type_of% f_ref11_Outlook_r0.eq_1 := by_rfl f_ref11_Outlook_r0.eq_1
theorem e_ref11_Outlook_r1 : type_of% f_ref11_Outlook_r1.eq_1 := by_rfl f_ref11_Outlook_r1.eq_1
theorem e_ref11_Outlook_r2 : type_of% f_ref11_Outlook_r2.eq_1 := by_rfl f_ref11_Outlook_r2.eq_1
theorem e_ref11_Outlook_r3 : type_of% f_ref11_Outlook_r3.eq_1 := by_rfl f_ref11_Outlook_r3.eq_1
theorem e_ref11_Outlook_r4 : type_of% f_ref11_Outlook_r4.eq_1 := by_rfl f_ref11_Outlook_r4.eq_1
theorem e_ref11_Outlook_r5 : type_of% f_ref11_Outlook_r5.eq_1 := by_rfl f_ref11_Outlook_r5.eq_1
theorem e_ref11_Outlook_r6 : type_of% f_ref11_Outlook_r6.eq_1 := by_rfl f_ref11_Outlook_r6.eq_1
theorem e_ref11_Outlook_r7 : type_of% f_ref11_Outlook_r7.eq_1 := by_rfl f_ref11_Outlook_r7.eq_1
theorem e_ref11_Outlook_r8 : type_of% f_ref11_Outlook_r8.eq_1 := by_rfl f_ref11_Outlook_r8.eq_1
theorem e_ref11_Outlook_r9 : type_of% f_ref11_Outlook_r9.eq_1 := by_rfl f_ref11_Outlook_r9.eq_1
theorem e_ref11_Outlook_r10 : type_of% f_ref11_Outlook_r10.eq_1 := by_rfl f_ref11_Outlook_r10.eq_1
theorem e_ref11_Outlook_r11 : type_of% f_ref11_Outlook_r11.eq_1 := by_rfl f_ref11_Outlook_r11.eq_1
theorem e_ref11_Outlook_l12 : type_of% f_ref11_Outlook_l12.eq_1 := by_rfl f_ref11_Outlook_l12.eq_1
theorem e_ref11_Outlook_r13 : type_of% f_ref11_Outlook_r13.eq_1 := by_rfl f_ref11_Outlook_r13.eq_1
theorem e_ref11_Outlook : type_of% f_ref11_Outlook.eq_1 := by_rfl f_ref11_Outlook.eq_1
theorem ok_ref11_Outlook : fnC Tryz.prog a_ref11_Outlook Tryz.f45 = some f_ref11_Outlook := by kernel_rfl

/-! 46 fumarole/fumarolelaw11.tracts -/
def f_law11_tracts_r0 : List Abs.Op := [
  ⟨some 0, none, false, .alcv [] [(.int .i64 0), .nils]⟩]

def f_law11_tracts_r1 : List Abs.Op := [
  ⟨some 1, none, false, .bsi 3 1 [(.int .i64 0), (.int .i64 0), (.int .i64 0)] [(0, 1, (.c (.int .i64 333))), (1, 1, (.c (.int .i64 667))), (2, 1, (.c (.int .i64 0)))]⟩,
  ⟨some 2, none, false, .bsi 3 1 [(.int .i64 0), (.int .i64 0), (.int .i64 0)] [(0, 1, (.c (.int .i64 500))), (1, 1, (.c (.int .i64 0))), (2, 1, (.c (.int .i64 250)))]⟩,
  ⟨some 3, none, false, .bsi 2 1 [.nils, .nils] [(0, 1, (.t 1)), (1, 1, (.t 2))]⟩,
  ⟨some 4, none, false, .bld [(.int .i64 0), .nils] [(0, 1, (.c (.int .i64 3))), (1, 1, (.t 3))]⟩,
  ⟨none, none, false, .stv 0 [] 2 0 (.t 4)⟩]

def a_law11_tracts : Ann := ⟨[(1, [0]), (0, [0])], [], [], [0], [0], [], [], [], [], []⟩
def f_law11_tracts : Abs.Fn := ⟨0, [.v 0 true 2],
  (.seq (.reg [0] f_law11_tracts_r0) (.seq (.reg [0] f_law11_tracts_r1) .ret))⟩

theorem e_law11_tracts_r0 : type_of% f_law11_tracts_r0.eq_1 := by_rfl f_law11_tracts_r0.eq_1
theorem e_law11_tracts_r1 : type_of% f_law11_tracts_r1.eq_1 := by_rfl f_law11_tracts_r1.eq_1
theorem e_law11_tracts : type_of% f_law11_tracts.eq_1 := by_rfl f_law11_tracts.eq_1
theorem ok_law11_tracts : fnC Tryz.prog a_law11_tracts Tryz.f46 = some f_law11_tracts := by kernel_rfl

/-! 47 fumarole/lease.Split -/
def f_lease_Split_r0 : List Abs.Op := [
  ⟨some 4, none, false, .mv (.c .nils)⟩,
  ⟨some 5, none, false, .mv (.c (.int .i64 0))⟩]

def f_lease_Split_r1 : List Abs.Op := [
  ⟨some 17, none, false, .mv (.t 0)⟩,
  ⟨some 18, none, false, .call false (.c (.fn i_lease_total [] [])) [(.t 17)]⟩,
  ⟨some 19, none, false, .un .not (.t 18)⟩]

def f_lease_Split_r2 : List Abs.Op := [
  ⟨some 4, none, false, .mv (.c .nils)⟩,
  ⟨some 5, none, false, .mv (.c (.int .i64 2))⟩]

def f_lease_Split_r3 : List Abs.Op := [
  ⟨some 6, none, false, .mv (.c (.int .i64 0))⟩]

def f_lease_Split_r4 : List Abs.Op := [
  ⟨some 20, none, false, .mv (.t 1)⟩,
  ⟨some 21, none, false, .lenS (.t 20)⟩,
  ⟨some 22, none, false, .call false (.c (.fn i_lease_within [] [])) [(.t 21), (.c (.int .i64 1)), (.c (.int .i64 8))]⟩,
  ⟨some 23, none, false, .un .not (.t 22)⟩,
  ⟨some 24, none, false, .mv (.t 23)⟩,
  ⟨some 25, some (24, false), false, .mv (.t 1)⟩,
  ⟨some 26, some (24, false), false, .call false (.c (.fn i_lease_all_int [] [])) [(.t 25), (.c (.fn i_lease_total [] []))]⟩,
  ⟨some 27, some (24, false), false, .un .not (.t 26)⟩,
  ⟨some 28, none, false, .pick (.t 24) (.c (.bool true)) (.t 27)⟩,
  ⟨some 29, none, false, .mv (.t 28)⟩,
  ⟨some 30, some (29, false), false, .mv (.t 1)⟩,
  ⟨some 31, some (29, false), false, .call false (.c (.fn i_lease_sum [] [])) [(.t 30)]⟩,
  ⟨some 32, some (29, false), false, .bin .eql (.t 31) (.c (.int .i64 0))⟩,
  ⟨some 33, none, false, .pick (.t 29) (.c (.bool true)) (.t 32)⟩]

def f_lease_Split_r5 : List Abs.Op := [
  ⟨some 4, none, false, .mv (.c .nils)⟩,
  ⟨some 5, none, false, .mv (.c (.int .i64 1))⟩]

def f_lease_Split_r6 : List Abs.Op := [
  ⟨some 34, none, false, .mv (.t 1)⟩,
  ⟨some 35, none, false, .call false (.c (.fn i_lease_sum [] [])) [(.t 34)]⟩,
  ⟨some 6, none, false, .mv (.t 35)⟩]

def f_lease_Split_r7 : List Abs.Op := [
  ⟨some 7, none, false, .nilb 2⟩]

def f_lease_Split_r8 : List Abs.Op := [
  ⟨some 36, none, false, .mv (.t 0)⟩,
  ⟨some 8, none, false, .mv (.t 36)⟩]

def f_lease_Split_r9 : List Abs.Op := [
  ⟨some 37, none, false, .mv (.t 1)⟩,
  ⟨some 38, none, false, .lenS (.t 37)⟩,
  ⟨some 39, none, false, .mv (.c (.int .i64 0))⟩]

def f_lease_Split_r10 : List Abs.Op := [
  ⟨some 40, none, false, .bin .lss (.t 39) (.t 38)⟩]

def f_lease_Split_r11 : List Abs.Op := [
  ⟨some 41, none, false, .idxS 1 (.t 37) (.t 39)⟩,
  ⟨some 42, none, false, .ld false 1 (.t 41)⟩,
  ⟨some 10, none, false, .mv (.t 42)⟩]

def f_lease_Split_r12 : List Abs.Op := [
  ⟨some 43, none, false, .mv (.t 0)⟩,
  ⟨some 44, none, false, .mv (.t 10)⟩,
  ⟨some 45, none, false, .mv (.t 6)⟩,
  ⟨some 46, none, false, .call false (.c (.fn i_lease_part [] [])) [(.t 43), (.t 44), (.t 45)]⟩,
  ⟨some 11, none, false, .alcv [] [(.int .i64 0), (.int .i64 0)]⟩,
  ⟨none, none, false, .stv 11 [] 2 11 (.t 46)⟩]

def f_lease_Split_r13 : List Abs.Op := [
  ⟨some 47, none, true, .mv (.t 7)⟩,
  ⟨some 48, none, true, .ldv 11 true 2 11⟩,
  ⟨some 49, none, true, .bsi 1 2 [(.int .i64 0), (.int .i64 0)] [(0, 2, (.t 48))]⟩,
  ⟨some 50, none, true, .app 2 16 (.t 47) (.t 49)⟩,
  ⟨some 51, none, true, .mv (.t 8)⟩,
  ⟨some 52, none, true, .fadr 0 (.t 11)⟩,
  ⟨some 53, none, true, .ldv 11 false 1 52⟩,
  ⟨some 54, none, true, .bin .sub (.t 51) (.t 53)⟩,
  ⟨some 7, none, true, .mv (.t 50)⟩,
  ⟨some 8, none, false, .mv (.t 54)⟩]

def f_lease_Split_r14 : List Abs.Op := [
  ⟨some 55, none, false, .bin .add (.t 39) (.c (.int .i64 1))⟩,
  ⟨some 39, none, false, .mv (.t 55)⟩]

def f_lease_Split_l15 : Abs.Cmd :=
  (.seq (.reg [0, 1, 6, 7, 8, 37, 38, 39, 40] f_lease_Split_r10) (.seq (.ite (.t 40) .nop (.exit 0)) (.seq (.blk 1 (.seq (.reg [0, 1, 6, 7, 8, 10, 37, 38, 39] f_lease_Split_r11) (.seq (.reg [0, 1, 6, 7, 8, 11, 37, 38, 39] f_lease_Split_r12) (.reg [0, 1, 6, 7, 8, 37, 38, 39] f_lease_Split_r13)))) (.reg [0, 1, 6, 7, 8, 37, 38, 39] f_lease_Split_r14))))

def f_lease_Split_r16 : List Abs.Op := [
  ⟨some 56, none, false, .mv (.t 1)⟩,
  ⟨some 57, none, false, .lenS (.t 56)⟩,
  ⟨some 58, none, false, .mks 1 8 [(.int .i64 0)] (.t 57) (.t 57)⟩,
  ⟨some 12, none, false, .mv (.t 58)⟩]

def f_lease_Split_r17 : List Abs.Op := [
  ⟨some 59, none, false, .mv (.t 7)⟩,
  ⟨some 60, none, false, .lenS (.t 59)⟩,
  ⟨some 61, none, false, .mv (.c (.int .i64 0))⟩]

def f_lease_Split_r18 : List Abs.Op := [
  ⟨some 62, none, false, .bin .lss (.t 61) (.t 60)⟩]

def f_lease_Split_r19 : List Abs.Op := [
  ⟨some 63, none, false, .mv (.t 61)⟩,
  ⟨some 64, none, false, .idxS 2 (.t 59) (.t 61)⟩,
  ⟨some 65, none, false, .ld true 2 (.t 64)⟩,
  ⟨some 14, none, false, .alcv [] [(.int .i64 0), (.int .i64 0)]⟩,
  ⟨some 13, none, false, .mv (.t 63)⟩,
  ⟨none, none, false, .stv 14 [] 2 14 (.t 65)⟩]

def f_lease_Split_r20 : List Abs.Op := [
  ⟨some 66, none, false, .mv (.t 12)⟩,
  ⟨some 67, none, false, .mv (.t 13)⟩,
  ⟨some 68, none, false, .fadr 0 (.t 14)⟩,
  ⟨some 69, none, false, .ldv 14 false 1 68⟩,
  ⟨some 70, none, false, .idxS 1 (.t 66) (.t 67)⟩,
  ⟨none, none, false, .st [] 1 (.t 70) (.t 69)⟩]

def f_lease_Split_r21 : List Abs.Op := [
  ⟨some 71, none, false, .bin .add (.t 61) (.c (.int .i64 1))⟩,
  ⟨some 61, none, false, .mv (.t 71)⟩]

def f_lease_Split_l22 : Abs.Cmd :=
  (.seq (.reg [7, 8, 12, 59, 60, 61, 62] f_lease_Split_r18) (.seq (.ite (.t 62) .nop (.exit 2)) (.seq (.blk 3 (.seq (.reg [7, 8, 12, 13, 14, 59, 60, 61] f_lease_Split_r19) (.reg [7, 8, 12, 59, 60, 61] f_lease_Split_r20))) (.reg [7, 8, 12, 59, 60, 61] f_lease_Split_r21))))

def f_lease_Split_r23 : List Abs.Op := [
  ⟨some 72, none, false, .mv (.t 7)⟩,
  ⟨some 73, none, false, .call false (.c (.fn i_lease_ranked_lease_portion [] [])) [(.t 72), (.c (.fn i_lease_Split_1 [] []))]⟩,
  ⟨some 74, none, false, .mv (.t 8)⟩,
  ⟨some 75, none, false, .slc 1 (.t 73) none (some (.t 74)) none⟩,
  ⟨some 76, none, false, .lenS (.t 75)⟩,
  ⟨some 77, none, false, .mv (.c (.int .i64 0))⟩]

def f_lease_Split_r24 : List Abs.Op := [
  ⟨some 78, none, false, .bin .lss (.t 77) (.t 76)⟩]

def f_lease_Split_r25 : List Abs.Op := [
  ⟨some 79, none, false, .idxS 1 (.t 75) (.t 77)⟩,
  ⟨some 80, none, false, .ld false 1 (.t 79)⟩,
  ⟨some 16, none, false, .mv (.t 80)⟩]

def f_lease_Split_r26 : List Abs.Op := [
  ⟨some 81, none, false, .mv (.t 12)⟩,
  ⟨some 82, none, false, .mv (.t 16)⟩,
  ⟨some 83, none, false, .idxS 1 (.t 81) (.t 82)⟩,
  ⟨some 84, none, false, .ld false 1 (.t 83)⟩,
  ⟨some 85, none, false, .bin .add (.t 84) (.c (.int .i64 1))⟩,
  ⟨some 86, none, false, .idxS 1 (.t 81) (.t 82)⟩,
  ⟨none, none, false, .st [] 1 (.t 86) (.t 85)⟩]

def f_lease_Split_r27 : List Abs.Op := [
  ⟨some 87, none, false, .bin .add (.t 77) (.c (.int .i64 1))⟩,
  ⟨some 77, none, false, .mv (.t 87)⟩]

def f_lease_Split_l28 : Abs.Cmd :=
  (.seq (.reg [12, 75, 76, 77, 78] f_lease_Split_r24) (.seq (.ite (.t 78) .nop (.exit 4)) (.seq (.blk 5 (.seq (.reg [12, 16, 75, 76, 77] f_lease_Split_r25) (.reg [12, 75, 76, 77] f_lease_Split_r26))) (.reg [12, 75, 76, 77] f_lease_Split_r27))))

def f_lease_Split_r29 : List Abs.Op := [
  ⟨some 88, none, false, .mv (.t 12)⟩,
  ⟨some 4, none, false, .mv (.t 88)⟩,
  ⟨some 5, none, false, .mv (.c (.int .i64 0))⟩]

def a_lease_Split : Ann := ⟨[(26, [4, 5]), (25, [12, 75, 76, 77]), (24, [12, 75, 76, 77]), (23, [12, 16, 75, 76, 77]), (22, [12, 75, 76, 77, 78]), (21, [12, 75, 76, 77]), (20, [7, 8, 12, 59, 60, 61]), (19, [7, 8, 12, 59, 60, 61]), (18, [7, 8, 12, 13, 14, 59, 60, 61]), (17, [7, 8, 12, 59, 60, 61, 62]), (16, [7, 8, 12, 59, 60, 61]), (15, [7, 8, 12]), (14, [0, 1, 6, 7, 8, 37, 38, 39]), (13, [0, 1, 6, 7, 8, 37, 38, 39]), (12, [0, 1, 6, 7, 8, 11, 37, 38, 39]), (11, [0, 1, 6, 7, 8, 10, 37, 38, 39]), (10, [0, 1, 6, 7, 8, 37, 38, 39, 40]), (9, [0, 1, 6, 7, 8, 37, 38, 39]), (8, [0, 1, 6, 7, 8]), (7, [0, 1, 6, 7]), (6, [0, 1, 6]), (5, [4, 5]), (4, [0, 1, 33]), (3, [0, 1]), (2, [4, 5]), (1, [0, 1, 19]), (0, [0, 1])], [(4, [12, 75, 76, 77]), (2, [7, 8, 12, 59, 60, 61]), (0, [0, 1, 6, 7, 8, 37, 38, 39])], [], [7, 11, 14], [11, 14], [], [], [(15, [7])], [], []⟩
def f_lease_Split : Abs.Fn := ⟨2, [.t 4, .t 5],
  (.seq (.reg [0, 1] f_lease_Split_r0) (.seq (.seq (.reg [0, 1, 19] f_lease_Split_r1) (.ite (.t 19) (.seq (.reg [4, 5] f_lease_Split_r2) .ret) .nop)) (.seq (.reg [0, 1] f_lease_Split_r3) (.seq (.seq (.reg [0, 1, 33] f_lease_Split_r4) (.ite (.t 33) (.seq (.reg [4, 5] f_lease_Split_r5) .ret) .nop)) (.seq (.reg [0, 1, 6] f_lease_Split_r6) (.seq (.reg [0, 1, 6, 7] f_lease_Split_r7) (.seq (.reg [0, 1, 6, 7, 8] f_lease_Split_r8) (.seq (.seq (.reg [0, 1, 6, 7, 8, 37, 38, 39] f_lease_Split_r9) (.blk 0 (.loop [0, 1, 6, 7, 8, 37, 38, 39] false f_lease_Split_l15))) (.seq (.seq (.frz [7]) (.reg [7, 8, 12] f_lease_Split_r16)) (.seq (.seq (.reg [7, 8, 12, 59, 60, 61] f_lease_Split_r17) (.blk 2 (.loop [7, 8, 12, 59, 60, 61] false f_lease_Split_l22))) (.seq (.seq (.reg [12, 75, 76, 77] f_lease_Split_r23) (.blk 4 (.loop [12, 75, 76, 77] false f_lease_Split_l28))) (.seq (.reg [4, 5] f_lease_Split_r29) .ret))))))))))))⟩

theorem e_lease_Split_r0 : type_of% f_lease_Split_r0.eq_1 := by_rfl f_lease_Split_r0.eq_1
theorem e_lease_Split_r1 : type_of% f_lease_Split_r1.eq_1 := by_rfl f_lease_Split_r1.eq_1
theorem e_lease_Split_r2 : type_of% f_lease_Split_r2.eq_1 := by_rfl f_lease_Split_r2.eq_1
theorem e_lease_Split_r3 : type_of% f_lease_Split_r3.eq_1 := by_rfl f_lease_Split_r3.eq_1
theorem e_lease_Split_r4 : type_of% f_lease_Split_r4.eq_1 := by_rfl f_lease_Split_r4.eq_1
theorem e_lease_Split_r5 : type_of% f_lease_Split_r5.eq_1 := by_rfl f_lease_Split_r5.eq_1
theorem e_lease_Split_r6 : type_of% f_lease_Split_r6.eq_1 := by_rfl f_lease_Split_r6.eq_1
theorem e_lease_Split_r7 : type_of% f_lease_Split_r7.eq_1 := by_rfl f_lease_Split_r7.eq_1
theorem e_lease_Split_r8 : type_of% f_lease_Split_r8.eq_1 := by_rfl f_lease_Split_r8.eq_1
theorem e_lease_Split_r9 : type_of% f_lease_Split_r9.eq_1 := by_rfl f_lease_Split_r9.eq_1
theorem e_lease_Split_r10 : type_of% f_lease_Split_r10.eq_1 := by_rfl f_lease_Split_r10.eq_1
theorem e_lease_Split_r11 : type_of% f_lease_Split_r11.eq_1 := by_rfl f_lease_Split_r11.eq_1
theorem e_lease_Split_r12 : type_of% f_lease_Split_r12.eq_1 := by_rfl f_lease_Split_r12.eq_1
theorem e_lease_Split_r13 : type_of% f_lease_Split_r13.eq_1 := by_rfl f_lease_Split_r13.eq_1
theorem e_lease_Split_r14 : type_of% f_lease_Split_r14.eq_1 := by_rfl f_lease_Split_r14.eq_1
theorem e_lease_Split_l15 : type_of% f_lease_Split_l15.eq_1 := by_rfl f_lease_Split_l15.eq_1
theorem e_lease_Split_r16 : type_of% f_lease_Split_r16.eq_1 := by_rfl f_lease_Split_r16.eq_1
theorem e_lease_Split_r17 : type_of% f_lease_Split_r17.eq_1 := by_rfl f_lease_Split_r17.eq_1
theorem e_lease_Split_r18 : type_of% f_lease_Split_r18.eq_1 := by_rfl f_lease_Split_r18.eq_1
theorem e_lease_Split_r19 : type_of% f_lease_Split_r19.eq_1 := by_rfl f_lease_Split_r19.eq_1
theorem e_lease_Split_r20 : type_of% f_lease_Split_r20.eq_1 := by_rfl f_lease_Split_r20.eq_1
theorem e_lease_Split_r21 : type_of% f_lease_Split_r21.eq_1 := by_rfl f_lease_Split_r21.eq_1
theorem e_lease_Split_l22 : type_of% f_lease_Split_l22.eq_1 := by_rfl f_lease_Split_l22.eq_1
theorem e_lease_Split_r23 : type_of% f_lease_Split_r23.eq_1 := by_rfl f_lease_Split_r23.eq_1
theorem e_lease_Split_r24 : type_of% f_lease_Split_r24.eq_1 := by_rfl f_lease_Split_r24.eq_1
theorem e_lease_Split_r25 : type_of% f_lease_Split_r25.eq_1 := by_rfl f_lease_Split_r25.eq_1
theorem e_lease_Split_r26 : type_of% f_lease_Split_r26.eq_1 := by_rfl f_lease_Split_r26.eq_1
theorem e_lease_Split_r27 : type_of% f_lease_Split_r27.eq_1 := by_rfl f_lease_Split_r27.eq_1
theorem e_lease_Split_l28 : type_of% f_lease_Split_l28.eq_1 := by_rfl f_lease_Split_l28.eq_1
theorem e_lease_Split_r29 : type_of% f_lease_Split_r29.eq_1 := by_rfl f_lease_Split_r29.eq_1
theorem e_lease_Split : type_of% f_lease_Split.eq_1 := by_rfl f_lease_Split.eq_1
theorem ok_lease_Split : fnC Tryz.prog a_lease_Split Tryz.f47 = some f_lease_Split := by kernel_rfl

/-! 49 fumarole/fumarolelaw11.pool -/
def f_law11_pool_r0 : List Abs.Op := [
  ⟨some 0, none, false, .mv (.c .nils)⟩]

def f_law11_pool_r1 : List Abs.Op := [
  ⟨some 1, none, false, .bld [(.int .i64 0), (.int .i64 0)] [(0, 1, (.c (.int .i64 100))), (1, 1, (.c (.int .i64 200)))]⟩,
  ⟨some 2, none, false, .bld [(.int .i64 0), (.int .i64 0)] [(1, 1, (.c (.int .i64 50)))]⟩,
  ⟨some 3, none, false, .bsi 2 2 [(.int .i64 0), (.int .i64 0), (.int .i64 0), (.int .i64 0)] [(0, 2, (.t 1)), (2, 2, (.t 2))]⟩,
  ⟨some 4, none, false, .bld [(.int .i64 0), (.int .i64 0), .nils] [(0, 1, (.c (.int .i64 10))), (1, 1, (.c (.int .i64 8))), (2, 1, (.t 3))]⟩,
  ⟨some 5, none, false, .bsi 1 3 [(.int .i64 0), (.int .i64 0), .nils] [(0, 3, (.t 4))]⟩,
  ⟨some 0, none, false, .mv (.t 5)⟩]

def a_law11_pool : Ann := ⟨[(1, [0]), (0, [])], [], [], [], [], [], [], [], [], []⟩
def f_law11_pool : Abs.Fn := ⟨0, [.t 0],
  (.seq (.reg [] f_law11_pool_r0) (.seq (.reg [0] f_law11_pool_r1) .ret))⟩

theorem e_law11_pool_r0 : type_of% f_law11_pool_r0.eq_1 := by_rfl f_law11_pool_r0.eq_1
theorem e_law11_pool_r1 : type_of% f_law11_pool_r1.eq_1 := by_rfl f_law11_pool_r1.eq_1
theorem e_law11_pool : type_of% f_law11_pool.eq_1 := by_rfl f_law11_pool.eq_1
theorem ok_law11_pool : fnC Tryz.prog a_law11_pool Tryz.f49 = some f_law11_pool := by kernel_rfl

/-! 50 fumarole/fumarolelaw11.drilled -/
def f_law11_drilled_r0 : List Abs.Op := [
  ⟨some 0, none, false, .alcv [] [(.int .i64 0), (.int .i64 0), (.int .i64 0), (.int .i64 0), .nils]⟩]

def f_law11_drilled_r1 : List Abs.Op := [
  ⟨some 1, none, false, .bld [(.int .i64 0), (.int .i64 0)] [(0, 1, (.c (.int .i64 12))), (1, 1, (.c (.int .i64 5)))]⟩,
  ⟨some 2, none, false, .bld [(.int .i64 0), (.int .i64 0)] [(0, 1, (.c (.int .i64 14))), (1, 1, (.c (.int .i64 4)))]⟩,
  ⟨some 3, none, false, .bld [(.int .i64 0), (.int .i64 0)] [(0, 1, (.c (.int .i64 15))), (1, 1, (.c (.int .i64 9)))]⟩,
  ⟨some 4, none, false, .bsi 3 2 [(.int .i64 0), (.int .i64 0), (.int .i64 0), (.int .i64 0), (.int .i64 0), (.int .i64 0)] [(0, 2, (.t 1)), (2, 2, (.t 2)), (4, 2, (.t 3))]⟩,
  ⟨some 5, none, false, .bld [(.int .i64 0), (.int .i64 0), (.int .i64 0), (.int .i64 0), .nils] [(0, 1, (.c (.int .i64 10))), (1, 1, (.c (.int .i64 6))), (2, 1, (.c (.int .i64 900))), (3, 1, (.c (.int .i64 2))), (4, 1, (.t 4))]⟩,
  ⟨none, none, false, .stv 0 [] 5 0 (.t 5)⟩]

def a_law11_drilled : Ann := ⟨[(1, [0]), (0, [0])], [], [], [0], [0], [], [], [], [], []⟩
def f_law11_drilled : Abs.Fn := ⟨0, [.v 0 true 5],
  (.seq (.reg [0] f_law11_drilled_r0) (.seq (.reg [0] f_law11_drilled_r1) .ret))⟩

theorem e_law11_drilled_r0 : type_of% f_law11_drilled_r0.eq_1 := by_rfl f_law11_drilled_r0.eq_1
theorem e_law11_drilled_r1 : type_of% f_law11_drilled_r1.eq_1 := by_rfl f_law11_drilled_r1.eq_1
theorem e_law11_drilled : type_of% f_law11_drilled.eq_1 := by_rfl f_law11_drilled.eq_1
theorem ok_law11_drilled : fnC Tryz.prog a_law11_drilled Tryz.f50 = some f_law11_drilled := by kernel_rfl

/-! 52 fumarole/fumaroleref11.In -/
def f_ref11_In_r0 : List Abs.Op := [
  ⟨some 6, none, false, .mv (.c (.bool false))⟩]

def f_ref11_In_r1 : List Abs.Op := [
  ⟨some 7, none, false, .mv (.t 0)⟩,
  ⟨some 8, none, false, .mv (.t 1)⟩,
  ⟨some 9, none, false, .bin .geq (.t 7) (.t 8)⟩,
  ⟨some 10, none, false, .mv (.t 9)⟩,
  ⟨some 11, some (10, true), false, .mv (.t 0)⟩,
  ⟨some 12, some (10, true), false, .mv (.t 2)⟩,
  ⟨some 13, some (10, true), false, .bin .leq (.t 11) (.t 12)⟩,
  ⟨some 14, none, false, .pick (.t 10) (.t 13) (.c (.bool false))⟩,
  ⟨some 6, none, false, .mv (.t 14)⟩]

def a_ref11_In : Ann := ⟨[(1, [6]), (0, [0, 1, 2])], [], [], [], [], [], [], [], [], []⟩
def f_ref11_In : Abs.Fn := ⟨3, [.t 6],
  (.seq (.reg [0, 1, 2] f_ref11_In_r0) (.seq (.reg [6] f_ref11_In_r1) .ret))⟩

theorem e_ref11_In_r0 : type_of% f_ref11_In_r0.eq_1 := by_rfl f_ref11_In_r0.eq_1
theorem e_ref11_In_r1 : type_of% f_ref11_In_r1.eq_1 := by_rfl f_ref11_In_r1.eq_1
theorem e_ref11_In : type_of% f_ref11_In.eq_1 := by_rfl f_ref11_In.eq_1
theorem ok_ref11_In : fnC Tryz.prog a_ref11_In Tryz.f52 = some f_ref11_In := by kernel_rfl

/-! 53 (fumarole/lease.Programme).valid -/
def f_lease_Programme_valid_r0 : List Abs.Op := [
  ⟨some 1, none, false, .boxi (.t 0)⟩,
  ⟨some 2, none, false, .mv (.c (.bool false))⟩]

def f_lease_Programme_valid_r1 : List Abs.Op := [
  ⟨some 3, none, false, .fadr 0 (.t 1)⟩,
  ⟨some 4, none, false, .ld false 1 (.t 3)⟩,
  ⟨some 5, none, false, .call false (.c (.fn i_lease_within [] [])) [(.t 4), (.c (.int .i64 0)), (.c (.int .i64 1000000))]⟩,
  ⟨some 6, none, false, .mv (.t 5)⟩,
  ⟨some 7, some (6, true), false, .fadr 1 (.t 1)⟩,
  ⟨some 8, some (6, true), false, .ld false 1 (.t 7)⟩,
  ⟨some 9, some (6, true), false, .call false (.c (.fn i_lease_within [] [])) [(.t 8), (.c (.int .i64 1)), (.c (.int .i64 1000000))]⟩,
  ⟨some 10, none, false, .pick (.t 6) (.t 9) (.c (.bool false))⟩,
  ⟨some 11, none, false, .mv (.t 10)⟩,
  ⟨some 12, some (11, true), false, .fadr 2 (.t 1)⟩,
  ⟨some 13, some (11, true), false, .ld false 1 (.t 12)⟩,
  ⟨some 14, some (11, true), false, .call false (.c (.fn i_lease_within [] [])) [(.t 13), (.c (.int .i64 0)), (.c (.int .i64 1000))]⟩,
  ⟨some 15, none, false, .pick (.t 11) (.t 14) (.c (.bool false))⟩,
  ⟨some 16, none, false, .mv (.t 15)⟩,
  ⟨some 17, some (16, true), false, .fadr 3 (.t 1)⟩,
  ⟨some 18, some (16, true), false, .ld false 1 (.t 17)⟩,
  ⟨some 19, some (16, true), false, .call false (.c (.fn i_lease_within [] [])) [(.t 18), (.c (.int .i64 0)), (.c (.int .i64 3))]⟩,
  ⟨some 20, none, false, .pick (.t 16) (.t 19) (.c (.bool false))⟩,
  ⟨some 21, none, false, .mv (.t 20)⟩,
  ⟨some 22, some (21, true), false, .fadr 4 (.t 1)⟩,
  ⟨some 23, some (21, true), false, .ld false 1 (.t 22)⟩,
  ⟨some 24, some (21, true), false, .lenS (.t 23)⟩,
  ⟨some 25, some (21, true), false, .call false (.c (.fn i_lease_within [] [])) [(.t 24), (.c (.int .i64 1)), (.c (.int .i64 8))]⟩,
  ⟨some 26, none, false, .pick (.t 21) (.t 25) (.c (.bool false))⟩,
  ⟨some 27, none, false, .mv (.t 26)⟩,
  ⟨some 28, some (27, true), false, .fadr 4 (.t 1)⟩,
  ⟨some 29, some (27, true), false, .ld false 1 (.t 28)⟩,
  ⟨some 30, some (27, true), false, .call false (.c (.fn i_lease_all_lease_Year [] [])) [(.t 29), (.c (.fn i_lease_Programme_valid_1 [] []))]⟩,
  ⟨some 31, none, false, .pick (.t 27) (.t 30) (.c (.bool false))⟩,
  ⟨some 2, none, false, .mv (.t 31)⟩]

def a_lease_Programme_valid : Ann := ⟨[(1, [2]), (0, [1])], [], [], [], [], [], [], [], [], []⟩
def f_lease_Programme_valid : Abs.Fn := ⟨1, [.t 2],
  (.seq (.reg [1] f_lease_Programme_valid_r0) (.seq (.reg [2] f_lease_Programme_valid_r1) .ret))⟩

theorem e_lease_Programme_valid_r0 : type_of% f_lease_Programme_valid_r0.eq_1 := by_rfl f_lease_Programme_valid_r0.eq_1
theorem e_lease_Programme_valid_r1 : type_of% f_lease_Programme_valid_r1.eq_1 := by_rfl f_lease_Programme_valid_r1.eq_1
theorem e_lease_Programme_valid : type_of% f_lease_Programme_valid.eq_1 := by_rfl f_lease_Programme_valid.eq_1
theorem ok_lease_Programme_valid : fnC Tryz.prog a_lease_Programme_valid Tryz.f53 = some f_lease_Programme_valid := by kernel_rfl

/-! 54 (fumarole/lease.work).table -/
def f_lease_work_table_r0 : List Abs.Op := [
  ⟨some 1, none, false, .boxi (.t 0)⟩,
  ⟨some 2, none, false, .mv (.c .nils)⟩]

def f_lease_work_table_r1 : List Abs.Op := [
  ⟨some 6, none, false, .fadr 0 (.t 1)⟩,
  ⟨some 7, none, false, .fadr 4 (.t 6)⟩,
  ⟨some 8, none, false, .ld false 1 (.t 7)⟩,
  ⟨some 9, none, false, .lenS (.t 8)⟩,
  ⟨some 10, none, false, .mks 1 24 [.nils] (.t 9) (.t 9)⟩,
  ⟨some 3, none, false, .alc [] [.nils]⟩,
  ⟨none, none, false, .st [] 1 (.t 3) (.t 10)⟩]

def f_lease_work_table_r2 : List Abs.Op := [
  ⟨some 11, none, false, .ld true 5 (.t 1)⟩,
  ⟨some 12, none, false, .call false (.c (.fn i_lease_work_ladders [] [])) [(.t 11)]⟩]

def f_lease_work_table_r3 : List Abs.Op := [
  ⟨some 4, none, false, .mv (.t 13)⟩]

def f_lease_work_table_r4 : List Abs.Op := [
  ⟨some 5, none, false, .mv (.t 14)⟩]

def f_lease_work_table_r5 : List Abs.Op := [
  ⟨some 15, none, false, .ld false 1 (.t 3)⟩,
  ⟨some 16, none, false, .mv (.t 4)⟩,
  ⟨some 17, none, false, .mv (.t 5)⟩,
  ⟨some 18, none, false, .idxS 1 (.t 15) (.t 16)⟩,
  ⟨none, none, false, .st [] 1 (.t 18) (.t 17)⟩]

def f_lease_work_table_a6 : Abs.Cmd :=
  (.seq (.reg [3, 4, 14] f_lease_work_table_r3) (.reg [3, 4, 5] f_lease_work_table_r4))

def f_lease_work_table_b6 : Abs.Cmd :=
  (.blk 1 (.reg [] f_lease_work_table_r5))

def f_lease_work_table_r7 : List Abs.Op := [
  ⟨some 19, none, false, .ld false 1 (.t 3)⟩,
  ⟨some 2, none, false, .mv (.t 19)⟩]

def a_lease_work_table : Ann := ⟨[(6, [2]), (5, []), (4, [3, 4, 5]), (3, [3, 4, 14]), (2, [2, 3, 12]), (1, [1, 2, 3]), (0, [1, 2])], [(0, [2, 3])], [], [3], [], [], [], [], [], []⟩
def f_lease_work_table : Abs.Fn := ⟨1, [.t 2],
  (.seq (.reg [1, 2] f_lease_work_table_r0) (.seq (.reg [1, 2, 3] f_lease_work_table_r1) (.seq (.seq (.reg [2, 3, 12] f_lease_work_table_r2) (.blk 0 (.rngf [2, 3] (.t 12) [13, 14] f_lease_work_table_a6 f_lease_work_table_b6))) (.seq (.reg [2] f_lease_work_table_r7) .ret))))⟩

theorem e_lease_work_table_r0 : type_of% f_lease_work_table_r0.eq_1 := by_rfl f_lease_work_table_r0.eq_1
theorem e_lease_work_table_r1 : type_of% f_lease_work_table_r1.eq_1 := by_rfl f_lease_work_table_r1.eq_1
theorem e_lease_work_table_r2 : type_of% f_lease_work_table_r2.eq_1 := by_rfl f_lease_work_table_r2.eq_1
theorem e_lease_work_table_r3 : type_of% f_lease_work_table_r3.eq_1 := by_rfl f_lease_work_table_r3.eq_1
theorem e_lease_work_table_r4 : type_of% f_lease_work_table_r4.eq_1 := by_rfl f_lease_work_table_r4.eq_1
theorem e_lease_work_table_r5 : type_of% f_lease_work_table_r5.eq_1 := by_rfl f_lease_work_table_r5.eq_1
theorem e_lease_work_table_a6 : type_of% f_lease_work_table_a6.eq_1 := by_rfl f_lease_work_table_a6.eq_1
theorem e_lease_work_table_b6 : type_of% f_lease_work_table_b6.eq_1 := by_rfl f_lease_work_table_b6.eq_1
theorem e_lease_work_table_r7 : type_of% f_lease_work_table_r7.eq_1 := by_rfl f_lease_work_table_r7.eq_1
theorem e_lease_work_table : type_of% f_lease_work_table.eq_1 := by_rfl f_lease_work_table.eq_1
theorem ok_lease_work_table : fnC Tryz.prog a_lease_work_table Tryz.f54 = some f_lease_work_table := by kernel_rfl

/-! 55 (fumarole/lease.ladder).at -/
def f_lease_ladder_at_r0 : List Abs.Op := [
  ⟨some 4, none, false, .mv (.c (.int .i64 0))⟩]

def f_lease_ladder_at_r1 : List Abs.Op := [
  ⟨some 7, none, false, .mv (.t 1)⟩,
  ⟨some 8, none, false, .mn (.t 7) (.c (.int .i64 100000000))⟩,
  ⟨some 1, none, false, .mv (.t 8)⟩]

def f_lease_ladder_at_r2 : List Abs.Op := [
  ⟨some 10, none, false, .mv (.t 0)⟩,
  ⟨some 11, none, false, .mv (.t 1)⟩,
  ⟨some 12, none, false, .call false (.c (.fn i_slices_BinarySearchFunc_lease_ladder_lease_Rung_int [] [])) [(.t 10), (.t 11), (.c (.fn i_lease_ladder_at_1 [] []))]⟩,
  ⟨some 9, none, false, .mv (.t 12)⟩,
  ⟨some 13, none, false, .ext (.t 9) 0⟩,
  ⟨some 14, none, false, .ext (.t 9) 1⟩,
  ⟨some 5, none, false, .mv (.t 13)⟩,
  ⟨some 6, none, false, .mv (.t 14)⟩]

def f_lease_ladder_at_r3 : List Abs.Op := [
  ⟨some 15, none, false, .mv (.t 0)⟩,
  ⟨some 16, none, false, .mv (.t 5)⟩,
  ⟨some 17, none, false, .idxS 2 (.t 15) (.t 16)⟩,
  ⟨some 18, none, false, .fadr 1 (.t 17)⟩,
  ⟨some 19, none, false, .ld false 1 (.t 18)⟩,
  ⟨some 4, none, false, .mv (.t 19)⟩]

def a_lease_ladder_at : Ann := ⟨[(3, [4]), (2, [0, 5]), (1, [0, 1]), (0, [0, 1])], [], [], [], [], [], [], [], [], []⟩
def f_lease_ladder_at : Abs.Fn := ⟨2, [.t 4],
  (.seq (.reg [0, 1] f_lease_ladder_at_r0) (.seq (.reg [0, 1] f_lease_ladder_at_r1) (.seq (.reg [0, 5] f_lease_ladder_at_r2) (.seq (.reg [4] f_lease_ladder_at_r3) .ret))))⟩

theorem e_lease_ladder_at_r0 : type_of% f_lease_ladder_at_r0.eq_1 := by_rfl f_lease_ladder_at_r0.eq_1
theorem e_lease_ladder_at_r1 : type_of% f_lease_ladder_at_r1.eq_1 := by_rfl f_lease_ladder_at_r1.eq_1
theorem e_lease_ladder_at_r2 : type_of% f_lease_ladder_at_r2.eq_1 := by_rfl f_lease_ladder_at_r2.eq_1
theorem e_lease_ladder_at_r3 : type_of% f_lease_ladder_at_r3.eq_1 := by_rfl f_lease_ladder_at_r3.eq_1
theorem e_lease_ladder_at : type_of% f_lease_ladder_at.eq_1 := by_rfl f_lease_ladder_at.eq_1
theorem ok_lease_ladder_at : fnC Tryz.prog a_lease_ladder_at Tryz.f55 = some f_lease_ladder_at := by kernel_rfl

/-! 56 (fumarole/lease.Programme).meets -/
def f_lease_Programme_meets_r0 : List Abs.Op := [
  ⟨some 4, none, false, .boxi (.t 0)⟩,
  ⟨some 8, none, false, .mv (.c (.bool false))⟩]

def f_lease_Programme_meets_r1 : List Abs.Op := [
  ⟨some 9, none, true, .mv (.t 2)⟩,
  ⟨some 10, none, true, .mv (.t 3)⟩,
  ⟨some 11, none, true, .fadr 1 (.t 4)⟩,
  ⟨some 12, none, true, .ld false 1 (.t 11)⟩,
  ⟨some 13, none, true, .bin .mul (.t 10) (.t 12)⟩,
  ⟨some 14, none, true, .bin .add (.t 9) (.t 13)⟩,
  ⟨some 15, none, true, .fadr 4 (.t 4)⟩,
  ⟨some 16, none, true, .ld false 1 (.t 15)⟩,
  ⟨some 17, none, true, .mv (.t 1)⟩,
  ⟨some 18, none, true, .idxS 2 (.t 16) (.t 17)⟩,
  ⟨some 19, none, true, .fadr 0 (.t 18)⟩,
  ⟨some 20, none, true, .ld false 1 (.t 19)⟩,
  ⟨some 21, none, false, .bin .geq (.t 14) (.t 20)⟩,
  ⟨some 8, none, false, .mv (.t 21)⟩]

def a_lease_Programme_meets : Ann := ⟨[(1, [8]), (0, [1, 2, 3, 4])], [], [], [], [], [], [], [], [], []⟩
def f_lease_Programme_meets : Abs.Fn := ⟨4, [.t 8],
  (.seq (.reg [1, 2, 3, 4] f_lease_Programme_meets_r0) (.seq (.reg [8] f_lease_Programme_meets_r1) .ret))⟩

theorem e_lease_Programme_meets_r0 : type_of% f_lease_Programme_meets_r0.eq_1 := by_rfl f_lease_Programme_meets_r0.eq_1
theorem e_lease_Programme_meets_r1 : type_of% f_lease_Programme_meets_r1.eq_1 := by_rfl f_lease_Programme_meets_r1.eq_1
theorem e_lease_Programme_meets : type_of% f_lease_Programme_meets.eq_1 := by_rfl f_lease_Programme_meets.eq_1
theorem ok_lease_Programme_meets : fnC Tryz.prog a_lease_Programme_meets Tryz.f56 = some f_lease_Programme_meets := by kernel_rfl

/-! 57 (fumarole/lease.Year).cost -/
def f_lease_Year_cost_r0 : List Abs.Op := [
  ⟨some 2, none, false, .boxi (.t 0)⟩,
  ⟨some 4, none, false, .mv (.c (.int .i64 0))⟩]

def f_lease_Year_cost_r1 : List Abs.Op := [
  ⟨some 5, none, false, .mv (.t 1)⟩,
  ⟨some 6, none, false, .fadr 1 (.t 2)⟩,
  ⟨some 7, none, false, .ld false 1 (.t 6)⟩,
  ⟨some 8, none, false, .bin .mul (.t 5) (.t 7)⟩,
  ⟨some 4, none, false, .mv (.t 8)⟩]

def a_lease_Year_cost : Ann := ⟨[(1, [4]), (0, [1, 2])], [], [], [], [], [], [], [], [], []⟩
def f_lease_Year_cost : Abs.Fn := ⟨2, [.t 4],
  (.seq (.reg [1, 2] f_lease_Year_cost_r0) (.seq (.reg [4] f_lease_Year_cost_r1) .ret))⟩

theorem e_lease_Year_cost_r0 : type_of% f_lease_Year_cost_r0.eq_1 := by_rfl f_lease_Year_cost_r0.eq_1
theorem e_lease_Year_cost_r1 : type_of% f_lease_Year_cost_r1.eq_1 := by_rfl f_lease_Year_cost_r1.eq_1
theorem e_lease_Year_cost : type_of% f_lease_Year_cost.eq_1 := by_rfl f_lease_Year_cost.eq_1
theorem ok_lease_Year_cost : fnC Tryz.prog a_lease_Year_cost Tryz.f57 = some f_lease_Year_cost := by kernel_rfl

/-! 58 (fumarole/lease.Programme).after -/
def f_lease_Programme_after_r0 : List Abs.Op := [
  ⟨some 3, none, false, .boxi (.t 0)⟩,
  ⟨some 6, none, false, .mv (.c (.int .i64 0))⟩]

def f_lease_Programme_after_r1 : List Abs.Op := [
  ⟨some 7, none, false, .mv (.t 1)⟩,
  ⟨some 8, none, false, .mv (.t 2)⟩,
  ⟨some 9, none, false, .fadr 1 (.t 3)⟩,
  ⟨some 10, none, false, .ld false 1 (.t 9)⟩,
  ⟨some 11, none, false, .bin .mul (.t 8) (.t 10)⟩,
  ⟨some 12, none, false, .bin .add (.t 7) (.t 11)⟩,
  ⟨some 13, none, false, .fadr 2 (.t 3)⟩,
  ⟨some 14, none, false, .ld false 1 (.t 13)⟩,
  ⟨some 15, none, false, .bin .mul (.t 12) (.t 14)⟩,
  ⟨some 16, none, false, .bin .quo (.t 15) (.c (.int .i64 1000))⟩,
  ⟨some 6, none, false, .mv (.t 16)⟩]

def a_lease_Programme_after : Ann := ⟨[(1, [6]), (0, [1, 2, 3])], [], [], [], [], [], [], [], [], []⟩
def f_lease_Programme_after : Abs.Fn := ⟨3, [.t 6],
  (.seq (.reg [1, 2, 3] f_lease_Programme_after_r0) (.seq (.reg [6] f_lease_Programme_after_r1) .ret))⟩

theorem e_lease_Programme_after_r0 : type_of% f_lease_Programme_after_r0.eq_1 := by_rfl f_lease_Programme_after_r0.eq_1
theorem e_lease_Programme_after_r1 : type_of% f_lease_Programme_after_r1.eq_1 := by_rfl f_lease_Programme_after_r1.eq_1
theorem e_lease_Programme_after : type_of% f_lease_Programme_after.eq_1 := by_rfl f_lease_Programme_after.eq_1
theorem ok_lease_Programme_after : fnC Tryz.prog a_lease_Programme_after Tryz.f58 = some f_lease_Programme_after := by kernel_rfl

/-! 59 fumarole/fumaroleref11.RightTable -/
def f_ref11_RightTable_r0 : List Abs.Op := [
  ⟨some 2, none, false, .boxi (.t 0)⟩,
  ⟨some 4, none, false, .mv (.c (.bool false))⟩]

def f_ref11_RightTable_r1 : List Abs.Op := [
  ⟨some 13, none, false, .mv (.t 1)⟩,
  ⟨some 14, none, false, .lenS (.t 13)⟩,
  ⟨some 15, none, false, .fadr 4 (.t 2)⟩,
  ⟨some 16, none, false, .ld false 1 (.t 15)⟩,
  ⟨some 17, none, false, .lenS (.t 16)⟩,
  ⟨some 18, none, false, .bin .neq (.t 14) (.t 17)⟩]

def f_ref11_RightTable_r2 : List Abs.Op := [
  ⟨some 4, none, false, .mv (.c (.bool false))⟩]

def f_ref11_RightTable_r3 : List Abs.Op := [
  ⟨some 5, none, false, .mv (.c (.int .i64 0))⟩]

def f_ref11_RightTable_r4 : List Abs.Op := [
  ⟨some 19, none, false, .mv (.t 5)⟩,
  ⟨some 20, none, false, .mv (.t 1)⟩,
  ⟨some 21, none, false, .lenS (.t 20)⟩,
  ⟨some 22, none, false, .bin .lss (.t 19) (.t 21)⟩]

def f_ref11_RightTable_r5 : List Abs.Op := [
  ⟨some 25, none, false, .mv (.t 1)⟩,
  ⟨some 26, none, false, .mv (.t 5)⟩,
  ⟨some 27, none, false, .idxS 1 (.t 25) (.t 26)⟩,
  ⟨some 28, none, false, .ld false 1 (.t 27)⟩,
  ⟨some 6, none, false, .mv (.t 28)⟩]

def f_ref11_RightTable_r6 : List Abs.Op := [
  ⟨some 29, none, false, .mv (.t 6)⟩,
  ⟨some 30, none, false, .lenS (.t 29)⟩,
  ⟨some 31, none, false, .bin .lss (.t 30) (.c (.int .i64 1))⟩,
  ⟨some 32, none, false, .mv (.t 31)⟩,
  ⟨some 33, some (32, false), false, .mv (.t 6)⟩,
  ⟨some 34, some (32, false), false, .lenS (.t 33)⟩,
  ⟨some 35, some (32, false), false, .bin .gtr (.t 34) (.c (.int .i64 70000))⟩,
  ⟨some 36, none, false, .pick (.t 32) (.c (.bool true)) (.t 35)⟩,
  ⟨some 37, none, false, .mv (.t 36)⟩,
  ⟨some 38, some (37, false), false, .mv (.t 6)⟩,
  ⟨some 39, some (37, false), false, .mv (.t 6)⟩,
  ⟨some 40, some (37, false), false, .lenS (.t 39)⟩,
  ⟨some 41, some (37, false), false, .bin .sub (.t 40) (.c (.int .i64 1))⟩,
  ⟨some 42, some (37, false), false, .idxS 2 (.t 38) (.t 41)⟩,
  ⟨some 43, some (37, false), false, .fadr 0 (.t 42)⟩,
  ⟨some 44, some (37, false), false, .ld false 1 (.t 43)⟩,
  ⟨some 45, some (37, false), false, .bin .neq (.t 44) (.c (.int .i64 100000000))⟩,
  ⟨some 46, none, false, .pick (.t 37) (.c (.bool true)) (.t 45)⟩]

def f_ref11_RightTable_r7 : List Abs.Op := [
  ⟨some 4, none, false, .mv (.c (.bool false))⟩]

def f_ref11_RightTable_r8 : List Abs.Op := [
  ⟨some 7, none, false, .mv (.c (.int .i64 0))⟩]

def f_ref11_RightTable_r9 : List Abs.Op := [
  ⟨some 47, none, false, .mv (.t 7)⟩,
  ⟨some 48, none, false, .mv (.t 6)⟩,
  ⟨some 49, none, false, .lenS (.t 48)⟩,
  ⟨some 50, none, false, .bin .lss (.t 47) (.t 49)⟩]

def f_ref11_RightTable_r10 : List Abs.Op := [
  ⟨some 53, none, true, .mv (.t 6)⟩,
  ⟨some 54, none, true, .mv (.t 7)⟩,
  ⟨some 55, none, true, .idxS 2 (.t 53) (.t 54)⟩,
  ⟨some 56, none, true, .fadr 0 (.t 55)⟩,
  ⟨some 57, none, true, .ld false 1 (.t 56)⟩,
  ⟨some 58, none, true, .bin .lss (.t 57) (.c (.int .i64 0))⟩,
  ⟨some 59, none, true, .mv (.t 58)⟩,
  ⟨some 60, some (59, false), true, .mv (.t 6)⟩,
  ⟨some 61, some (59, false), true, .mv (.t 7)⟩,
  ⟨some 62, some (59, false), true, .idxS 2 (.t 60) (.t 61)⟩,
  ⟨some 63, some (59, false), true, .fadr 1 (.t 62)⟩,
  ⟨some 64, some (59, false), true, .ld false 1 (.t 63)⟩,
  ⟨some 65, some (59, false), true, .call false (.c (.fn i_ref11_In [] [])) [(.t 64), (.c (.int .i64 0)), (.c (.int .i64 1000000000000))]⟩,
  ⟨some 66, some (59, false), true, .un .not (.t 65)⟩,
  ⟨some 67, none, true, .pick (.t 59) (.c (.bool true)) (.t 66)⟩,
  ⟨some 68, none, true, .mv (.t 67)⟩,
  ⟨some 69, some (68, false), true, .mv (.t 7)⟩,
  ⟨some 70, some (68, false), true, .bin .gtr (.t 69) (.c (.int .i64 0))⟩,
  ⟨some 71, some (68, false), true, .mv (.t 70)⟩,
  ⟨some 72, some (71, true), true, .mv (.t 6)⟩,
  ⟨some 73, some (71, true), true, .mv (.t 7)⟩,
  ⟨some 74, some (71, true), true, .idxS 2 (.t 72) (.t 73)⟩,
  ⟨some 75, some (71, true), true, .fadr 0 (.t 74)⟩,
  ⟨some 76, some (71, true), true, .ld false 1 (.t 75)⟩,
  ⟨some 77, some (71, true), true, .mv (.t 6)⟩,
  ⟨some 78, some (71, true), true, .mv (.t 7)⟩,
  ⟨some 79, some (71, true), true, .bin .sub (.t 78) (.c (.int .i64 1))⟩,
  ⟨some 80, some (71, true), true, .idxS 2 (.t 77) (.t 79)⟩,
  ⟨some 81, some (71, true), true, .fadr 0 (.t 80)⟩,
  ⟨some 82, some (71, true), true, .ld false 1 (.t 81)⟩,
  ⟨some 83, some (71, true), true, .bin .leq (.t 76) (.t 82)⟩,
  ⟨some 84, some (71, true), true, .mv (.t 83)⟩,
  ⟨some 85, some (84, false), true, .mv (.t 6)⟩,
  ⟨some 86, some (84, false), true, .mv (.t 7)⟩,
  ⟨some 87, some (84, false), true, .idxS 2 (.t 85) (.t 86)⟩,
  ⟨some 88, some (84, false), true, .fadr 1 (.t 87)⟩,
  ⟨some 89, some (84, false), true, .ld false 1 (.t 88)⟩,
  ⟨some 90, some (84, false), true, .mv (.t 6)⟩,
  ⟨some 91, some (84, false), true, .mv (.t 7)⟩,
  ⟨some 92, some (84, false), true, .bin .sub (.t 91) (.c (.int .i64 1))⟩,
  ⟨some 93, some (84, false), true, .idxS 2 (.t 90) (.t 92)⟩,
  ⟨some 94, some (84, false), true, .fadr 1 (.t 93)⟩,
  ⟨some 95, some (84, false), true, .ld false 1 (.t 94)⟩,
  ⟨some 96, some (84, false), false, .bin .geq (.t 89) (.t 95)⟩,
  ⟨some 97, some (71, true), false, .pick (.t 84) (.c (.bool true)) (.t 96)⟩,
  ⟨some 98, some (68, false), false, .pick (.t 71) (.t 97) (.c (.bool false))⟩,
  ⟨some 99, none, false, .pick (.t 68) (.c (.bool true)) (.t 98)⟩]

def f_ref11_RightTable_r11 : List Abs.Op := [
  ⟨some 4, none, false, .mv (.c (.bool false))⟩]

def f_ref11_RightTable_r12 : List Abs.Op := [
  ⟨some 51, none, false, .mv (.t 7)⟩,
  ⟨some 52, none, false, .bin .add (.t 51) (.c (.int .i64 1))⟩,
  ⟨some 7, none, false, .mv (.t 52)⟩]

def f_ref11_RightTable_l13 : Abs.Cmd :=
  (.seq (.seq (.reg [1, 2, 5, 6, 7, 50] f_ref11_RightTable_r9) (.ite (.t 50) .nop (.exit 2))) (.seq (.blk 3 (.seq (.reg [1, 2, 5, 6, 7, 99] f_ref11_RightTable_r10) (.ite (.t 99) (.seq (.reg [4] f_ref11_RightTable_r11) .ret) .nop))) (.reg [1, 2, 5, 6, 7] f_ref11_RightTable_r12)))

def f_ref11_RightTable_r14 : List Abs.Op := [
  ⟨some 23, none, false, .mv (.t 5)⟩,
  ⟨some 24, none, false, .bin .add (.t 23) (.c (.int .i64 1))⟩,
  ⟨some 5, none, false, .mv (.t 24)⟩]

def f_ref11_RightTable_l15 : Abs.Cmd :=
  (.seq (.seq (.reg [1, 2, 5, 22] f_ref11_RightTable_r4) (.ite (.t 22) .nop (.exit 0))) (.seq (.blk 1 (.seq (.reg [1, 2, 5, 6] f_ref11_RightTable_r5) (.seq (.seq (.reg [1, 2, 5, 6, 46] f_ref11_RightTable_r6) (.ite (.t 46) (.seq (.reg [4] f_ref11_RightTable_r7) .ret) .nop)) (.seq (.reg [1, 2, 5, 6, 7] f_ref11_RightTable_r8) (.blk 2 (.loop [1, 2, 5, 6, 7] false f_ref11_RightTable_l13)))))) (.reg [1, 2, 5] f_ref11_RightTable_r14)))

def f_ref11_RightTable_r16 : List Abs.Op := [
  ⟨some 8, none, false, .mv (.c (.int .i64 0))⟩]

def f_ref11_RightTable_r17 : List Abs.Op := [
  ⟨some 100, none, false, .mv (.t 8)⟩,
  ⟨some 101, none, false, .mv (.t 1)⟩,
  ⟨some 102, none, false, .lenS (.t 101)⟩,
  ⟨some 103, none, false, .bin .lss (.t 100) (.t 102)⟩]

def f_ref11_RightTable_r18 : List Abs.Op := [
  ⟨some 9, none, false, .mv (.c (.int .i64 0))⟩]

def f_ref11_RightTable_r19 : List Abs.Op := [
  ⟨some 106, none, false, .mv (.t 9)⟩,
  ⟨some 107, none, false, .mv (.t 1)⟩,
  ⟨some 108, none, false, .mv (.t 8)⟩,
  ⟨some 109, none, false, .idxS 1 (.t 107) (.t 108)⟩,
  ⟨some 110, none, false, .ld false 1 (.t 109)⟩,
  ⟨some 111, none, false, .lenS (.t 110)⟩,
  ⟨some 112, none, false, .bin .lss (.t 106) (.t 111)⟩]

def f_ref11_RightTable_r20 : List Abs.Op := [
  ⟨some 10, none, false, .mv (.c (.int .i64 0))⟩]

def f_ref11_RightTable_r21 : List Abs.Op := [
  ⟨some 115, none, false, .mv (.t 10)⟩,
  ⟨some 116, none, false, .fadr 3 (.t 2)⟩,
  ⟨some 117, none, false, .ld false 1 (.t 116)⟩,
  ⟨some 118, none, false, .bin .leq (.t 115) (.t 117)⟩]

def f_ref11_RightTable_r22 : List Abs.Op := [
  ⟨some 121, none, true, .mv (.t 1)⟩,
  ⟨some 122, none, true, .mv (.t 8)⟩,
  ⟨some 123, none, true, .idxS 1 (.t 121) (.t 122)⟩,
  ⟨some 124, none, true, .ld false 1 (.t 123)⟩,
  ⟨some 125, none, true, .mv (.t 9)⟩,
  ⟨some 126, none, true, .idxS 2 (.t 124) (.t 125)⟩,
  ⟨some 127, none, true, .fadr 0 (.t 126)⟩,
  ⟨some 128, none, true, .ld false 1 (.t 127)⟩,
  ⟨some 129, none, true, .mv (.t 10)⟩,
  ⟨some 130, none, true, .fadr 1 (.t 2)⟩,
  ⟨some 131, none, true, .ld false 1 (.t 130)⟩,
  ⟨some 132, none, true, .bin .mul (.t 129) (.t 131)⟩,
  ⟨some 133, none, false, .bin .add (.t 128) (.t 132)⟩,
  ⟨some 11, none, false, .mv (.t 133)⟩]

def f_ref11_RightTable_r23 : List Abs.Op := [
  ⟨some 134, none, false, .mv (.t 11)⟩,
  ⟨some 135, none, false, .fadr 4 (.t 2)⟩,
  ⟨some 136, none, false, .ld false 1 (.t 135)⟩,
  ⟨some 137, none, false, .mv (.t 8)⟩,
  ⟨some 138, none, false, .idxS 2 (.t 136) (.t 137)⟩,
  ⟨some 139, none, false, .fadr 0 (.t 138)⟩,
  ⟨some 140, none, false, .ld false 1 (.t 139)⟩,
  ⟨some 141, none, false, .bin .lss (.t 134) (.t 140)⟩]

def f_ref11_RightTable_r24 : List Abs.Op := [
  ⟨some 12, none, false, .mv (.c (.int .i64 0))⟩]

def f_ref11_RightTable_r25 : List Abs.Op := [
  ⟨some 142, none, false, .mv (.t 8)⟩,
  ⟨some 143, none, false, .bin .add (.t 142) (.c (.int .i64 1))⟩,
  ⟨some 144, none, false, .mv (.t 1)⟩,
  ⟨some 145, none, false, .lenS (.t 144)⟩,
  ⟨some 146, none, false, .bin .lss (.t 143) (.t 145)⟩]

def f_ref11_RightTable_r26 : List Abs.Op := [
  ⟨some 147, none, true, .mv (.t 1)⟩,
  ⟨some 148, none, true, .mv (.t 8)⟩,
  ⟨some 149, none, true, .bin .add (.t 148) (.c (.int .i64 1))⟩,
  ⟨some 150, none, true, .idxS 1 (.t 147) (.t 149)⟩,
  ⟨some 151, none, true, .ld false 1 (.t 150)⟩,
  ⟨some 152, none, true, .mv (.t 11)⟩,
  ⟨some 153, none, true, .fadr 2 (.t 2)⟩,
  ⟨some 154, none, true, .ld false 1 (.t 153)⟩,
  ⟨some 155, none, true, .bin .mul (.t 152) (.t 154)⟩,
  ⟨some 156, none, true, .bin .quo (.t 155) (.c (.int .i64 1000))⟩,
  ⟨some 157, none, false, .call false (.c (.fn i_ref11_Cost [] [])) [(.t 151), (.t 156)]⟩,
  ⟨some 12, none, false, .mv (.t 157)⟩]

def f_ref11_RightTable_r27 : List Abs.Op := [
  ⟨some 158, none, true, .mv (.t 1)⟩,
  ⟨some 159, none, true, .mv (.t 8)⟩,
  ⟨some 160, none, true, .idxS 1 (.t 158) (.t 159)⟩,
  ⟨some 161, none, true, .ld false 1 (.t 160)⟩,
  ⟨some 162, none, true, .mv (.t 9)⟩,
  ⟨some 163, none, true, .idxS 2 (.t 161) (.t 162)⟩,
  ⟨some 164, none, true, .fadr 1 (.t 163)⟩,
  ⟨some 165, none, true, .ld false 1 (.t 164)⟩,
  ⟨some 166, none, true, .mv (.t 10)⟩,
  ⟨some 167, none, true, .fadr 4 (.t 2)⟩,
  ⟨some 168, none, true, .ld false 1 (.t 167)⟩,
  ⟨some 169, none, true, .mv (.t 8)⟩,
  ⟨some 170, none, true, .idxS 2 (.t 168) (.t 169)⟩,
  ⟨some 171, none, true, .fadr 1 (.t 170)⟩,
  ⟨some 172, none, true, .ld false 1 (.t 171)⟩,
  ⟨some 173, none, true, .bin .mul (.t 166) (.t 172)⟩,
  ⟨some 174, none, true, .mv (.t 12)⟩,
  ⟨some 175, none, true, .bin .add (.t 173) (.t 174)⟩,
  ⟨some 176, none, true, .mn (.c (.int .i64 1000000000000)) (.t 175)⟩,
  ⟨some 177, none, false, .bin .gtr (.t 165) (.t 176)⟩]

def f_ref11_RightTable_r28 : List Abs.Op := [
  ⟨some 4, none, false, .mv (.c (.bool false))⟩]

def f_ref11_RightTable_r29 : List Abs.Op := [
  ⟨some 119, none, false, .mv (.t 10)⟩,
  ⟨some 120, none, false, .bin .add (.t 119) (.c (.int .i64 1))⟩,
  ⟨some 10, none, false, .mv (.t 120)⟩]

def f_ref11_RightTable_l30 : Abs.Cmd :=
  (.seq (.seq (.reg [1, 2, 8, 9, 10, 118] f_ref11_RightTable_r21) (.ite (.t 118) .nop (.exit 8))) (.seq (.blk 9 (.seq (.reg [1, 2, 8, 9, 10, 11] f_ref11_RightTable_r22) (.seq (.seq (.reg [1, 2, 8, 9, 10, 11, 141] f_ref11_RightTable_r23) (.ite (.t 141) (.exit 9) .nop)) (.seq (.reg [1, 2, 8, 9, 10, 11, 12] f_ref11_RightTable_r24) (.seq (.seq (.reg [1, 2, 8, 9, 10, 11, 12, 146] f_ref11_RightTable_r25) (.ite (.t 146) (.reg [1, 2, 8, 9, 10, 12] f_ref11_RightTable_r26) .nop)) (.seq (.reg [1, 2, 8, 9, 10, 177] f_ref11_RightTable_r27) (.ite (.t 177) (.seq (.reg [4] f_ref11_RightTable_r28) .ret) .nop))))))) (.reg [1, 2, 8, 9, 10] f_ref11_RightTable_r29)))

def f_ref11_RightTable_r31 : List Abs.Op := [
  ⟨some 113, none, false, .mv (.t 9)⟩,
  ⟨some 114, none, false, .bin .add (.t 113) (.c (.int .i64 1))⟩,
  ⟨some 9, none, false, .mv (.t 114)⟩]

def f_ref11_RightTable_l32 : Abs.Cmd :=
  (.seq (.seq (.reg [1, 2, 8, 9, 112] f_ref11_RightTable_r19) (.ite (.t 112) .nop (.exit 6))) (.seq (.blk 7 (.seq (.reg [1, 2, 8, 9, 10] f_ref11_RightTable_r20) (.blk 8 (.loop [1, 2, 8, 9, 10] false f_ref11_RightTable_l30)))) (.reg [1, 2, 8, 9] f_ref11_RightTable_r31)))

def f_ref11_RightTable_r33 : List Abs.Op := [
  ⟨some 104, none, false, .mv (.t 8)⟩,
  ⟨some 105, none, false, .bin .add (.t 104) (.c (.int .i64 1))⟩,
  ⟨some 8, none, false, .mv (.t 105)⟩]

def f_ref11_RightTable_l34 : Abs.Cmd :=
  (.seq (.seq (.reg [1, 2, 8, 103] f_ref11_RightTable_r17) (.ite (.t 103) .nop (.exit 4))) (.seq (.blk 5 (.seq (.reg [1, 2, 8, 9] f_ref11_RightTable_r18) (.blk 6 (.loop [1, 2, 8, 9] false f_ref11_RightTable_l32)))) (.reg [1, 2, 8] f_ref11_RightTable_r33)))

def f_ref11_RightTable_r35 : List Abs.Op := [
  ⟨some 4, none, false, .mv (.c (.bool true))⟩]

def a_ref11_RightTable : Ann := ⟨[(30, [4]), (16, [1, 2, 8]), (19, [1, 2, 8, 9]), (22, [1, 2, 8, 9, 10]), (29, [4]), (28, [1, 2, 8, 9, 10, 177]), (27, [1, 2, 8, 9, 10, 12]), (26, [1, 2, 8, 9, 10, 11, 12, 146]), (25, [1, 2, 8, 9, 10, 11, 12]), (24, [1, 2, 8, 9, 10, 11, 141]), (23, [1, 2, 8, 9, 10, 11]), (21, [1, 2, 8, 9, 10, 118]), (20, [1, 2, 8, 9, 10]), (18, [1, 2, 8, 9, 112]), (17, [1, 2, 8, 9]), (15, [1, 2, 8, 103]), (14, [1, 2, 8]), (5, [1, 2, 5]), (11, [1, 2, 5, 6, 7]), (13, [4]), (12, [1, 2, 5, 6, 7, 99]), (10, [1, 2, 5, 6, 7, 50]), (9, [1, 2, 5, 6, 7]), (8, [4]), (7, [1, 2, 5, 6, 46]), (6, [1, 2, 5, 6]), (4, [1, 2, 5, 22]), (3, [1, 2, 5]), (2, [4]), (1, [1, 2, 18]), (0, [1, 2])], [(8, [1, 2, 8, 9, 10]), (6, [1, 2, 8, 9]), (4, [1, 2, 8]), (2, [1, 2, 5, 6, 7]), (0, [1, 2, 5])], [], [], [], [], [], [], [], []⟩
def f_ref11_RightTable : Abs.Fn := ⟨2, [.t 4],
  (.seq (.reg [1, 2] f_ref11_RightTable_r0) (.seq (.seq (.reg [1, 2, 18] f_ref11_RightTable_r1) (.ite (.t 18) (.seq (.reg [4] f_ref11_RightTable_r2) .ret) .nop)) (.seq (.seq (.reg [1, 2, 5] f_ref11_RightTable_r3) (.blk 0 (.loop [1, 2, 5] false f_ref11_RightTable_l15))) (.seq (.seq (.reg [1, 2, 8] f_ref11_RightTable_r16) (.blk 4 (.loop [1, 2, 8] false f_ref11_RightTable_l34))) (.seq (.reg [4] f_ref11_RightTable_r35) .ret)))))⟩

theorem e_ref11_RightTable_r0 : type_of% f_ref11_RightTable_r0.eq_1 := by_rfl f_ref11_RightTable_r0.eq_1
theorem e_ref11_RightTable_r1 : type_of% f_ref11_RightTable_r1.eq_1 := by_rfl f_ref11_RightTable_r1.eq_1
theorem e_ref11_RightTable_r2 : type_of% f_ref11_RightTable_r2.eq_1 := by_rfl f_ref11_RightTable_r2.eq_1
theorem e_ref11_RightTable_r3 : type_of% f_ref11_RightTable_r3.eq_1 := by_rfl f_ref11_RightTable_r3.eq_1
theorem e_ref11_RightTable_r4 : type_of% f_ref11_RightTable_r4.eq_1 := by_rfl f_ref11_RightTable_r4.eq_1
theorem e_ref11_RightTable_r5 : type_of% f_ref11_RightTable_r5.eq_1 := by_rfl f_ref11_RightTable_r5.eq_1
theorem e_ref11_RightTable_r6 : type_of% f_ref11_RightTable_r6.eq_1 := by_rfl f_ref11_RightTable_r6.eq_1
theorem e_ref11_RightTable_r7 : type_of% f_ref11_RightTable_r7.eq_1 := by_rfl f_ref11_RightTable_r7.eq_1
theorem e_ref11_RightTable_r8 : type_of% f_ref11_RightTable_r8.eq_1 := by_rfl f_ref11_RightTable_r8.eq_1
theorem e_ref11_RightTable_r9 : type_of% f_ref11_RightTable_r9.eq_1 := by_rfl f_ref11_RightTable_r9.eq_1
theorem e_ref11_RightTable_r10 : type_of% f_ref11_RightTable_r10.eq_1 := by_rfl f_ref11_RightTable_r10.eq_1
theorem e_ref11_RightTable_r11 : type_of% f_ref11_RightTable_r11.eq_1 := by_rfl f_ref11_RightTable_r11.eq_1
theorem e_ref11_RightTable_r12 : type_of% f_ref11_RightTable_r12.eq_1 := by_rfl f_ref11_RightTable_r12.eq_1
theorem e_ref11_RightTable_l13 : type_of% f_ref11_RightTable_l13.eq_1 := by_rfl f_ref11_RightTable_l13.eq_1
theorem e_ref11_RightTable_r14 : type_of% f_ref11_RightTable_r14.eq_1 := by_rfl f_ref11_RightTable_r14.eq_1
theorem e_ref11_RightTable_l15 : type_of% f_ref11_RightTable_l15.eq_1 := by_rfl f_ref11_RightTable_l15.eq_1
theorem e_ref11_RightTable_r16 : type_of% f_ref11_RightTable_r16.eq_1 := by_rfl f_ref11_RightTable_r16.eq_1
theorem e_ref11_RightTable_r17 : type_of% f_ref11_RightTable_r17.eq_1 := by_rfl f_ref11_RightTable_r17.eq_1
theorem e_ref11_RightTable_r18 : type_of% f_ref11_RightTable_r18.eq_1 := by_rfl f_ref11_RightTable_r18.eq_1
theorem e_ref11_RightTable_r19 : type_of% f_ref11_RightTable_r19.eq_1 := by_rfl f_ref11_RightTable_r19.eq_1
theorem e_ref11_RightTable_r20 : type_of% f_ref11_RightTable_r20.eq_1 := by_rfl f_ref11_RightTable_r20.eq_1
theorem e_ref11_RightTable_r21 : type_of% f_ref11_RightTable_r21.eq_1 := by_rfl f_ref11_RightTable_r21.eq_1
theorem e_ref11_RightTable_r22 : type_of% f_ref11_RightTable_r22.eq_1 := by_rfl f_ref11_RightTable_r22.eq_1
theorem e_ref11_RightTable_r23 : type_of% f_ref11_RightTable_r23.eq_1 := by_rfl f_ref11_RightTable_r23.eq_1
theorem e_ref11_RightTable_r24 : type_of% f_ref11_RightTable_r24.eq_1 := by_rfl f_ref11_RightTable_r24.eq_1
theorem e_ref11_RightTable_r25 : type_of% f_ref11_RightTable_r25.eq_1 := by_rfl f_ref11_RightTable_r25.eq_1
theorem e_ref11_RightTable_r26 : type_of% f_ref11_RightTable_r26.eq_1 := by_rfl f_ref11_RightTable_r26.eq_1
theorem e_ref11_RightTable_r27 : type_of% f_ref11_RightTable_r27.eq_1 := by_rfl f_ref11_RightTable_r27.eq_1
theorem e_ref11_RightTable_r28 : type_of% f_ref11_RightTable_r28.eq_1 := by_rfl f_ref11_RightTable_r28.eq_1
theorem e_ref11_RightTable_r29 : type_of% f_ref11_RightTable_r29.eq_1 := by_rfl f_ref11_RightTable_r29.eq_1
theorem e_ref11_RightTable_l30 : type_of% f_ref11_RightTable_l30.eq_1 := by_rfl f_ref11_RightTable_l30.eq_1
theorem e_ref11_RightTable_r31 : type_of% f_ref11_RightTable_r31.eq_1 := by_rfl f_ref11_RightTable_r31.eq_1
theorem e_ref11_RightTable_l32 : type_of% f_ref11_RightTable_l32.eq_1 := by_rfl f_ref11_RightTable_l32.eq_1
theorem e_ref11_RightTable_r33 : type_of% f_ref11_RightTable_r33.eq_1 := by_rfl f_ref11_RightTable_r33.eq_1
theorem e_ref11_RightTable_l34 : type_of% f_ref11_RightTable_l34.eq_1 := by_rfl f_ref11_RightTable_l34.eq_1
theorem e_ref11_RightTable_r35 : type_of% f_ref11_RightTable_r35.eq_1 := by_rfl f_ref11_RightTable_r35.eq_1
theorem e_ref11_RightTable : type_of% f_ref11_RightTable.eq_1 := by_rfl f_ref11_RightTable.eq_1
theorem ok_ref11_RightTable : fnC Tryz.prog a_ref11_RightTable Tryz.f59 = some f_ref11_RightTable := by kernel_rfl

/-! 60 fumarole/fumaroleref11.Cost -/
def f_ref11_Cost_r0 : List Abs.Op := [
  ⟨some 4, none, false, .mv (.c (.int .i64 0))⟩]

def f_ref11_Cost_r1 : List Abs.Op := [
  ⟨some 5, none, false, .mv (.c (.int .i64 0))⟩]

def f_ref11_Cost_r2 : List Abs.Op := [
  ⟨some 6, none, false, .mv (.t 5)⟩,
  ⟨some 7, none, false, .mv (.t 0)⟩,
  ⟨some 8, none, false, .lenS (.t 7)⟩,
  ⟨some 9, none, false, .bin .lss (.t 6) (.t 8)⟩]

def f_ref11_Cost_r3 : List Abs.Op := [
  ⟨some 12, none, false, .mv (.t 1)⟩,
  ⟨some 13, none, false, .mv (.t 0)⟩,
  ⟨some 14, none, false, .mv (.t 5)⟩,
  ⟨some 15, none, false, .idxS 2 (.t 13) (.t 14)⟩,
  ⟨some 16, none, false, .fadr 0 (.t 15)⟩,
  ⟨some 17, none, false, .ld false 1 (.t 16)⟩,
  ⟨some 18, none, false, .bin .leq (.t 12) (.t 17)⟩,
  ⟨some 19, none, false, .mv (.t 18)⟩,
  ⟨some 20, some (19, false), false, .mv (.t 5)⟩,
  ⟨some 21, some (19, false), false, .mv (.t 0)⟩,
  ⟨some 22, some (19, false), false, .lenS (.t 21)⟩,
  ⟨some 23, some (19, false), false, .bin .sub (.t 22) (.c (.int .i64 1))⟩,
  ⟨some 24, some (19, false), false, .bin .eql (.t 20) (.t 23)⟩,
  ⟨some 25, none, false, .pick (.t 19) (.c (.bool true)) (.t 24)⟩]

def f_ref11_Cost_r4 : List Abs.Op := [
  ⟨some 26, none, false, .mv (.t 0)⟩,
  ⟨some 27, none, false, .mv (.t 5)⟩,
  ⟨some 28, none, false, .idxS 2 (.t 26) (.t 27)⟩,
  ⟨some 29, none, false, .fadr 1 (.t 28)⟩,
  ⟨some 30, none, false, .ld false 1 (.t 29)⟩,
  ⟨some 4, none, false, .mv (.t 30)⟩]

def f_ref11_Cost_r5 : List Abs.Op := [
  ⟨some 10, none, false, .mv (.t 5)⟩,
  ⟨some 11, none, false, .bin .add (.t 10) (.c (.int .i64 1))⟩,
  ⟨some 5, none, false, .mv (.t 11)⟩]

def f_ref11_Cost_l6 : Abs.Cmd :=
  (.seq (.seq (.reg [0, 1, 5, 9] f_ref11_Cost_r2) (.ite (.t 9) .nop (.exit 0))) (.seq (.blk 1 (.seq (.reg [0, 1, 5, 25] f_ref11_Cost_r3) (.ite (.t 25) (.seq (.reg [4] f_ref11_Cost_r4) .ret) .nop))) (.reg [0, 1, 5] f_ref11_Cost_r5)))

def f_ref11_Cost_r7 : List Abs.Op := [
  ⟨some 4, none, false, .mv (.c (.int .i64 0))⟩]

def a_ref11_Cost : Ann := ⟨[(6, [4]), (3, [0, 1, 5]), (5, [4]), (4, [0, 1, 5, 25]), (2, [0, 1, 5, 9]), (1, [0, 1, 5]), (0, [0, 1])], [(0, [0, 1, 5])], [], [], [], [], [], [], [], []⟩
def f_ref11_Cost : Abs.Fn := ⟨2, [.t 4],
  (.seq (.reg [0, 1] f_ref11_Cost_r0) (.seq (.seq (.reg [0, 1, 5] f_ref11_Cost_r1) (.blk 0 (.loop [0, 1, 5] false f_ref11_Cost_l6))) (.seq (.reg [4] f_ref11_Cost_r7) .ret)))⟩

theorem e_ref11_Cost_r0 : type_of% f_ref11_Cost_r0.eq_1 := by_rfl f_ref11_Cost_r0.eq_1
theorem e_ref11_Cost_r1 : type_of% f_ref11_Cost_r1.eq_1 := by_rfl f_ref11_Cost_r1.eq_1
theorem e_ref11_Cost_r2 : type_of% f_ref11_Cost_r2.eq_1 := by_rfl f_ref11_Cost_r2.eq_1
theorem e_ref11_Cost_r3 : type_of% f_ref11_Cost_r3.eq_1 := by_rfl f_ref11_Cost_r3.eq_1
theorem e_ref11_Cost_r4 : type_of% f_ref11_Cost_r4.eq_1 := by_rfl f_ref11_Cost_r4.eq_1
theorem e_ref11_Cost_r5 : type_of% f_ref11_Cost_r5.eq_1 := by_rfl f_ref11_Cost_r5.eq_1
theorem e_ref11_Cost_l6 : type_of% f_ref11_Cost_l6.eq_1 := by_rfl f_ref11_Cost_l6.eq_1
theorem e_ref11_Cost_r7 : type_of% f_ref11_Cost_r7.eq_1 := by_rfl f_ref11_Cost_r7.eq_1
theorem e_ref11_Cost : type_of% f_ref11_Cost.eq_1 := by_rfl f_ref11_Cost.eq_1
theorem ok_ref11_Cost : fnC Tryz.prog a_ref11_Cost Tryz.f60 = some f_ref11_Cost := by kernel_rfl

/-! 61 fumarole/lease.taking -/
def f_lease_taking_r0 : List Abs.Op := [
  ⟨some 4, none, false, .mv (.c (.int .i64 0))⟩]

def f_lease_taking_r1 : List Abs.Op := [
  ⟨some 6, none, false, .mv (.t 0)⟩,
  ⟨some 7, none, false, .call false (.c (.fn i_lease_springs [] [])) [(.t 6)]⟩,
  ⟨some 8, none, false, .un .not (.t 7)⟩,
  ⟨some 5, none, false, .mv (.t 8)⟩]

def f_lease_taking_r2 : List Abs.Op := [
  ⟨some 4, none, false, .mv (.c (.int .i64 1))⟩]

def f_lease_taking_r3 : List Abs.Op := [
  ⟨some 10, none, false, .mv (.t 1)⟩,
  ⟨some 11, none, false, .lenS (.t 10)⟩,
  ⟨some 12, none, false, .mv (.t 0)⟩,
  ⟨some 13, none, false, .idxS 3 (.t 12) (.c (.int .i64 0))⟩,
  ⟨some 14, none, false, .fadr 2 (.t 13)⟩,
  ⟨some 15, none, false, .ld false 1 (.t 14)⟩,
  ⟨some 16, none, false, .lenS (.t 15)⟩,
  ⟨some 17, none, false, .bin .neq (.t 11) (.t 16)⟩,
  ⟨some 18, none, false, .mv (.t 17)⟩,
  ⟨some 19, some (18, false), false, .mv (.t 1)⟩,
  ⟨some 20, some (18, false), false, .call false (.c (.fn i_lease_all_int [] [])) [(.t 19), (.c (.fn i_lease_taking_1 [] []))]⟩,
  ⟨some 21, some (18, false), false, .un .not (.t 20)⟩,
  ⟨some 22, none, false, .pick (.t 18) (.c (.bool true)) (.t 21)⟩,
  ⟨some 9, none, false, .mv (.t 22)⟩]

def f_lease_taking_r4 : List Abs.Op := [
  ⟨some 4, none, false, .mv (.c (.int .i64 2))⟩]

def f_lease_taking_r5 : List Abs.Op := [
  ⟨some 4, none, false, .mv (.c (.int .i64 0))⟩]

def a_lease_taking : Ann := ⟨[(5, [4]), (2, [4]), (4, [4]), (3, [9]), (1, [0, 1, 5]), (0, [0, 1])], [], [], [], [], [], [], [], [], []⟩
def f_lease_taking : Abs.Fn := ⟨2, [.t 4],
  (.seq (.reg [0, 1] f_lease_taking_r0) (.seq (.blk 0 (.seq (.reg [0, 1, 5] f_lease_taking_r1) (.ite (.t 5) (.seq (.reg [4] f_lease_taking_r2) .ret) (.seq (.reg [9] f_lease_taking_r3) (.ite (.t 9) (.seq (.reg [4] f_lease_taking_r4) .ret) .nop))))) (.seq (.reg [4] f_lease_taking_r5) .ret)))⟩

theorem e_lease_taking_r0 : type_of% f_lease_taking_r0.eq_1 := by_rfl f_lease_taking_r0.eq_1
theorem e_lease_taking_r1 : type_of% f_lease_taking_r1.eq_1 := by_rfl f_lease_taking_r1.eq_1
theorem e_lease_taking_r2 : type_of% f_lease_taking_r2.eq_1 := by_rfl f_lease_taking_r2.eq_1
theorem e_lease_taking_r3 : type_of% f_lease_taking_r3.eq_1 := by_rfl f_lease_taking_r3.eq_1
theorem e_lease_taking_r4 : type_of% f_lease_taking_r4.eq_1 := by_rfl f_lease_taking_r4.eq_1
theorem e_lease_taking_r5 : type_of% f_lease_taking_r5.eq_1 := by_rfl f_lease_taking_r5.eq_1
theorem e_lease_taking : type_of% f_lease_taking.eq_1 := by_rfl f_lease_taking.eq_1
theorem ok_lease_taking : fnC Tryz.prog a_lease_taking Tryz.f61 = some f_lease_taking := by kernel_rfl

end Go.Proofs.YtcccafphhmcifaaGreat
