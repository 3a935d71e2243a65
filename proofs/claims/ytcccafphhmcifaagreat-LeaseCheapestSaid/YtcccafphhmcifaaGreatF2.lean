/- The code of functions of the program, in the small instruction set; each is what the translation makes of it. -/
import Derived.Test.YtcccafphhmcifaaGreatIds
set_option linter.unusedVariables false
set_option maxRecDepth 100000
namespace Go.Proofs.YtcccafphhmcifaaGreat
open Go Go.Abs
/-! 62 (fumarole/lease.Spring).behind -/
def f_lease_Spring_behind_r0 : List Abs.Op := [
  ⟨some 2, none, false, .boxi (.t 0)⟩,
  ⟨some 4, none, false, .alcv [] [(.int .i64 0), (.int .i64 0)]⟩]

def f_lease_Spring_behind_r1 : List Abs.Op := [
  ⟨some 8, none, false, .fadr 0 (.t 2)⟩,
  ⟨some 9, none, false, .ld false 1 (.t 8)⟩,
  ⟨some 10, none, false, .bin .mul (.c (.int .i64 1000)) (.t 9)⟩,
  ⟨some 11, none, false, .fadr 0 (.t 2)⟩,
  ⟨some 12, none, false, .ld false 1 (.t 11)⟩,
  ⟨some 13, none, false, .bin .mul (.c (.int .i64 1000)) (.t 12)⟩,
  ⟨some 14, none, false, .bld [(.int .i64 0), (.int .i64 0)] [(0, 1, (.t 10)), (1, 1, (.t 13))]⟩,
  ⟨some 5, none, false, .alcv [] [(.int .i64 0), (.int .i64 0)]⟩,
  ⟨none, none, false, .stv 5 [] 2 5 (.t 14)⟩]

def f_lease_Spring_behind_r2 : List Abs.Op := [
  ⟨some 15, none, false, .mv (.t 1)⟩,
  ⟨some 16, none, false, .lenS (.t 15)⟩,
  ⟨some 17, none, false, .mv (.c (.int .i64 0))⟩]

def f_lease_Spring_behind_r3 : List Abs.Op := [
  ⟨some 18, none, false, .bin .lss (.t 17) (.t 16)⟩]

def f_lease_Spring_behind_r4 : List Abs.Op := [
  ⟨some 19, none, false, .mv (.t 17)⟩,
  ⟨some 20, none, false, .idxS 1 (.t 15) (.t 17)⟩,
  ⟨some 21, none, false, .ld false 1 (.t 20)⟩,
  ⟨some 6, none, false, .mv (.t 19)⟩,
  ⟨some 7, none, false, .mv (.t 21)⟩]

def f_lease_Spring_behind_r5 : List Abs.Op := [
  ⟨some 22, none, true, .fadr 0 (.t 5)⟩,
  ⟨some 23, none, true, .ldv 5 false 1 22⟩,
  ⟨some 24, none, true, .mv (.t 7)⟩,
  ⟨some 25, none, true, .fadr 2 (.t 2)⟩,
  ⟨some 26, none, true, .ld false 1 (.t 25)⟩,
  ⟨some 27, none, true, .mv (.t 6)⟩,
  ⟨some 28, none, true, .idxS 2 (.t 26) (.t 27)⟩,
  ⟨some 29, none, true, .fadr 1 (.t 28)⟩,
  ⟨some 30, none, true, .ld false 1 (.t 29)⟩,
  ⟨some 31, none, true, .bin .mul (.t 24) (.t 30)⟩,
  ⟨some 32, none, true, .bin .sub (.t 23) (.t 31)⟩,
  ⟨some 33, none, true, .fadr 1 (.t 5)⟩,
  ⟨some 34, none, true, .ldv 5 false 1 33⟩,
  ⟨some 35, none, true, .mv (.t 7)⟩,
  ⟨some 36, none, true, .fadr 2 (.t 2)⟩,
  ⟨some 37, none, true, .ld false 1 (.t 36)⟩,
  ⟨some 38, none, true, .mv (.t 6)⟩,
  ⟨some 39, none, true, .idxS 2 (.t 37) (.t 38)⟩,
  ⟨some 40, none, true, .fadr 0 (.t 39)⟩,
  ⟨some 41, none, true, .ld false 1 (.t 40)⟩,
  ⟨some 42, none, true, .bin .mul (.t 35) (.t 41)⟩,
  ⟨some 43, none, true, .bin .sub (.t 34) (.t 42)⟩,
  ⟨some 44, none, false, .bld [(.int .i64 0), (.int .i64 0)] [(0, 1, (.t 32)), (1, 1, (.t 43))]⟩,
  ⟨none, none, false, .stv 5 [] 2 5 (.t 44)⟩]

def f_lease_Spring_behind_r6 : List Abs.Op := [
  ⟨some 45, none, false, .bin .add (.t 17) (.c (.int .i64 1))⟩,
  ⟨some 17, none, false, .mv (.t 45)⟩]

def f_lease_Spring_behind_l7 : Abs.Cmd :=
  (.seq (.reg [2, 4, 5, 15, 16, 17, 18] f_lease_Spring_behind_r3) (.seq (.ite (.t 18) .nop (.exit 0)) (.seq (.blk 1 (.seq (.reg [2, 4, 5, 6, 7, 15, 16, 17] f_lease_Spring_behind_r4) (.reg [2, 4, 5, 15, 16, 17] f_lease_Spring_behind_r5))) (.reg [2, 4, 5, 15, 16, 17] f_lease_Spring_behind_r6))))

def f_lease_Spring_behind_r8 : List Abs.Op := [
  ⟨some 46, none, false, .ldv 5 true 2 5⟩,
  ⟨none, none, false, .stv 4 [] 2 4 (.t 46)⟩]

def a_lease_Spring_behind : Ann := ⟨[(7, [4]), (6, [2, 4, 5, 15, 16, 17]), (5, [2, 4, 5, 15, 16, 17]), (4, [2, 4, 5, 6, 7, 15, 16, 17]), (3, [2, 4, 5, 15, 16, 17, 18]), (2, [2, 4, 5, 15, 16, 17]), (1, [1, 2, 4, 5]), (0, [1, 2, 4])], [(0, [2, 4, 5, 15, 16, 17])], [], [4, 5], [4, 5], [], [], [], [], []⟩
def f_lease_Spring_behind : Abs.Fn := ⟨2, [.v 4 true 2],
  (.seq (.reg [1, 2, 4] f_lease_Spring_behind_r0) (.seq (.reg [1, 2, 4, 5] f_lease_Spring_behind_r1) (.seq (.seq (.reg [2, 4, 5, 15, 16, 17] f_lease_Spring_behind_r2) (.blk 0 (.loop [2, 4, 5, 15, 16, 17] false f_lease_Spring_behind_l7))) (.seq (.reg [4] f_lease_Spring_behind_r8) .ret))))⟩

theorem e_lease_Spring_behind_r0 : type_of% f_lease_Spring_behind_r0.eq_1 := by_rfl f_lease_Spring_behind_r0.eq_1
theorem e_lease_Spring_behind_r1 : type_of% f_lease_Spring_behind_r1.eq_1 := by_rfl f_lease_Spring_behind_r1.eq_1
theorem e_lease_Spring_behind_r2 : type_of% f_lease_Spring_behind_r2.eq_1 := by_rfl f_lease_Spring_behind_r2.eq_1
theorem e_lease_Spring_behind_r3 : type_of% f_lease_Spring_behind_r3.eq_1 := by_rfl f_lease_Spring_behind_r3.eq_1
theorem e_lease_Spring_behind_r4 : type_of% f_lease_Spring_behind_r4.eq_1 := by_rfl f_lease_Spring_behind_r4.eq_1
theorem e_lease_Spring_behind_r5 : type_of% f_lease_Spring_behind_r5.eq_1 := by_rfl f_lease_Spring_behind_r5.eq_1
theorem e_lease_Spring_behind_r6 : type_of% f_lease_Spring_behind_r6.eq_1 := by_rfl f_lease_Spring_behind_r6.eq_1
theorem e_lease_Spring_behind_l7 : type_of% f_lease_Spring_behind_l7.eq_1 := by_rfl f_lease_Spring_behind_l7.eq_1
theorem e_lease_Spring_behind_r8 : type_of% f_lease_Spring_behind_r8.eq_1 := by_rfl f_lease_Spring_behind_r8.eq_1
theorem e_lease_Spring_behind : type_of% f_lease_Spring_behind.eq_1 := by_rfl f_lease_Spring_behind.eq_1
theorem ok_lease_Spring_behind : fnC Tryz.prog a_lease_Spring_behind Tryz.f62 = some f_lease_Spring_behind := by kernel_rfl

/-! 63 fumarole/lease.within -/
def f_lease_within_r0 : List Abs.Op := [
  ⟨some 6, none, false, .mv (.c (.bool false))⟩]

def f_lease_within_r1 : List Abs.Op := [
  ⟨some 7, none, false, .mv (.t 1)⟩,
  ⟨some 8, none, false, .mv (.t 0)⟩,
  ⟨some 9, none, false, .bin .leq (.t 7) (.t 8)⟩,
  ⟨some 10, none, false, .mv (.t 9)⟩,
  ⟨some 11, some (10, true), false, .mv (.t 0)⟩,
  ⟨some 12, some (10, true), false, .mv (.t 2)⟩,
  ⟨some 13, some (10, true), false, .bin .leq (.t 11) (.t 12)⟩,
  ⟨some 14, none, false, .pick (.t 10) (.t 13) (.c (.bool false))⟩,
  ⟨some 6, none, false, .mv (.t 14)⟩]

def a_lease_within : Ann := ⟨[(1, [6]), (0, [0, 1, 2])], [], [], [], [], [], [], [], [], []⟩
def f_lease_within : Abs.Fn := ⟨3, [.t 6],
  (.seq (.reg [0, 1, 2] f_lease_within_r0) (.seq (.reg [6] f_lease_within_r1) .ret))⟩

theorem e_lease_within_r0 : type_of% f_lease_within_r0.eq_1 := by_rfl f_lease_within_r0.eq_1
theorem e_lease_within_r1 : type_of% f_lease_within_r1.eq_1 := by_rfl f_lease_within_r1.eq_1
theorem e_lease_within : type_of% f_lease_within.eq_1 := by_rfl f_lease_within.eq_1
theorem ok_lease_within : fnC Tryz.prog a_lease_within Tryz.f63 = some f_lease_within := by kernel_rfl

/-! 64 fumarole/lease.springs -/
def f_lease_springs_r0 : List Abs.Op := [
  ⟨some 1, none, false, .boxi (.t 0)⟩,
  ⟨some 2, none, false, .mv (.c (.bool false))⟩]

def f_lease_springs_r1 : List Abs.Op := [
  ⟨some 3, none, false, .ld false 1 (.t 1)⟩,
  ⟨some 4, none, false, .lenS (.t 3)⟩,
  ⟨some 5, none, false, .call false (.c (.fn i_lease_within [] [])) [(.t 4), (.c (.int .i64 1)), (.c (.int .i64 10))]⟩,
  ⟨some 6, none, false, .un .not (.t 5)⟩,
  ⟨some 7, none, false, .mv (.t 6)⟩,
  ⟨some 8, some (7, false), false, .ld false 1 (.t 1)⟩,
  ⟨some 9, some (7, false), false, .idxS 3 (.t 8) (.c (.int .i64 0))⟩,
  ⟨some 10, some (7, false), false, .fadr 2 (.t 9)⟩,
  ⟨some 11, some (7, false), false, .ld false 1 (.t 10)⟩,
  ⟨some 12, some (7, false), false, .lenS (.t 11)⟩,
  ⟨some 13, some (7, false), false, .call false (.c (.fn i_lease_within [] [])) [(.t 12), (.c (.int .i64 1)), (.c (.int .i64 20))]⟩,
  ⟨some 14, some (7, false), false, .un .not (.t 13)⟩,
  ⟨some 15, none, false, .pick (.t 7) (.c (.bool true)) (.t 14)⟩]

def f_lease_springs_r2 : List Abs.Op := [
  ⟨some 2, none, false, .mv (.c (.bool false))⟩]

def f_lease_springs_r3 : List Abs.Op := [
  ⟨some 16, none, false, .ld false 1 (.t 1)⟩,
  ⟨some 17, none, false, .mkf i_lease_springs_1 [] [(.t 1)]⟩,
  ⟨some 18, none, false, .call false (.c (.fn i_lease_all_lease_Spring [] [])) [(.t 16), (.t 17)]⟩,
  ⟨some 2, none, false, .mv (.t 18)⟩]

def a_lease_springs : Ann := ⟨[(3, [2]), (2, [2]), (1, [1, 15]), (0, [1])], [], [], [], [], [], [], [], [], []⟩
def f_lease_springs : Abs.Fn := ⟨1, [.t 2],
  (.seq (.reg [1] f_lease_springs_r0) (.seq (.seq (.reg [1, 15] f_lease_springs_r1) (.ite (.t 15) (.seq (.reg [2] f_lease_springs_r2) .ret) .nop)) (.seq (.reg [2] f_lease_springs_r3) .ret)))⟩

theorem e_lease_springs_r0 : type_of% f_lease_springs_r0.eq_1 := by_rfl f_lease_springs_r0.eq_1
theorem e_lease_springs_r1 : type_of% f_lease_springs_r1.eq_1 := by_rfl f_lease_springs_r1.eq_1
theorem e_lease_springs_r2 : type_of% f_lease_springs_r2.eq_1 := by_rfl f_lease_springs_r2.eq_1
theorem e_lease_springs_r3 : type_of% f_lease_springs_r3.eq_1 := by_rfl f_lease_springs_r3.eq_1
theorem e_lease_springs : type_of% f_lease_springs.eq_1 := by_rfl f_lease_springs.eq_1
theorem ok_lease_springs : fnC Tryz.prog a_lease_springs Tryz.f64 = some f_lease_springs := by kernel_rfl

/-! 65 (fumarole/lease.Concession).valid -/
def f_lease_Concession_valid_r0 : List Abs.Op := [
  ⟨some 1, none, false, .boxi (.t 0)⟩,
  ⟨some 2, none, false, .mv (.c (.bool false))⟩]

def f_lease_Concession_valid_r1 : List Abs.Op := [
  ⟨some 3, none, false, .fadr 0 (.t 1)⟩,
  ⟨some 4, none, false, .ld false 1 (.t 3)⟩,
  ⟨some 5, none, false, .call false (.c (.fn i_lease_within [] [])) [(.t 4), (.c (.int .i64 1)), (.c (.int .i64 8))]⟩,
  ⟨some 6, none, false, .mv (.t 5)⟩,
  ⟨some 7, some (6, true), false, .fadr 1 (.t 1)⟩,
  ⟨some 8, some (6, true), false, .ld false 1 (.t 7)⟩,
  ⟨some 9, some (6, true), false, .lenS (.t 8)⟩,
  ⟨some 10, some (6, true), false, .call false (.c (.fn i_lease_within [] [])) [(.t 9), (.c (.int .i64 1)), (.c (.int .i64 20))]⟩,
  ⟨some 11, none, false, .pick (.t 6) (.t 10) (.c (.bool false))⟩,
  ⟨some 12, none, false, .mv (.t 11)⟩,
  ⟨some 13, some (12, true), false, .fadr 1 (.t 1)⟩,
  ⟨some 14, some (12, true), false, .ld false 1 (.t 13)⟩,
  ⟨some 15, some (12, true), false, .mkf i_lease_Concession_valid_1 [] [(.t 1)]⟩,
  ⟨some 16, some (12, true), false, .call false (.c (.fn i_lease_all_L_int [] [])) [(.t 14), (.t 15)]⟩,
  ⟨some 17, none, false, .pick (.t 12) (.t 16) (.c (.bool false))⟩,
  ⟨some 2, none, false, .mv (.t 17)⟩]

def a_lease_Concession_valid : Ann := ⟨[(1, [2]), (0, [1])], [], [], [], [], [], [], [], [], []⟩
def f_lease_Concession_valid : Abs.Fn := ⟨1, [.t 2],
  (.seq (.reg [1] f_lease_Concession_valid_r0) (.seq (.reg [2] f_lease_Concession_valid_r1) .ret))⟩

theorem e_lease_Concession_valid_r0 : type_of% f_lease_Concession_valid_r0.eq_1 := by_rfl f_lease_Concession_valid_r0.eq_1
theorem e_lease_Concession_valid_r1 : type_of% f_lease_Concession_valid_r1.eq_1 := by_rfl f_lease_Concession_valid_r1.eq_1
theorem e_lease_Concession_valid : type_of% f_lease_Concession_valid.eq_1 := by_rfl f_lease_Concession_valid.eq_1
theorem ok_lease_Concession_valid : fnC Tryz.prog a_lease_Concession_valid Tryz.f65 = some f_lease_Concession_valid := by kernel_rfl

/-! 66 (fumarole/lease.Concession).masses -/
def f_lease_Concession_masses_r0 : List Abs.Op := [
  ⟨some 2, none, false, .boxi (.t 0)⟩,
  ⟨some 4, none, false, .mv (.c (.bool false))⟩]

def f_lease_Concession_masses_r1 : List Abs.Op := [
  ⟨some 5, none, false, .mv (.t 1)⟩,
  ⟨some 6, none, false, .lenS (.t 5)⟩,
  ⟨some 7, none, false, .fadr 1 (.t 2)⟩,
  ⟨some 8, none, false, .ld false 1 (.t 7)⟩,
  ⟨some 9, none, false, .lenS (.t 8)⟩,
  ⟨some 10, none, false, .bin .eql (.t 6) (.t 9)⟩,
  ⟨some 11, none, false, .mv (.t 10)⟩,
  ⟨some 12, some (11, true), false, .mv (.t 1)⟩,
  ⟨some 13, some (11, true), false, .call false (.c (.fn i_lease_all_int [] [])) [(.t 12), (.c (.fn i_lease_total [] []))]⟩,
  ⟨some 14, none, false, .pick (.t 11) (.t 13) (.c (.bool false))⟩,
  ⟨some 4, none, false, .mv (.t 14)⟩]

def a_lease_Concession_masses : Ann := ⟨[(1, [4]), (0, [1, 2])], [], [], [], [], [], [], [], [], []⟩
def f_lease_Concession_masses : Abs.Fn := ⟨2, [.t 4],
  (.seq (.reg [1, 2] f_lease_Concession_masses_r0) (.seq (.reg [4] f_lease_Concession_masses_r1) .ret))⟩

theorem e_lease_Concession_masses_r0 : type_of% f_lease_Concession_masses_r0.eq_1 := by_rfl f_lease_Concession_masses_r0.eq_1
theorem e_lease_Concession_masses_r1 : type_of% f_lease_Concession_masses_r1.eq_1 := by_rfl f_lease_Concession_masses_r1.eq_1
theorem e_lease_Concession_masses : type_of% f_lease_Concession_masses.eq_1 := by_rfl f_lease_Concession_masses.eq_1
theorem ok_lease_Concession_masses : fnC Tryz.prog a_lease_Concession_masses Tryz.f66 = some f_lease_Concession_masses := by kernel_rfl

/-! 67 (fumarole/lease.Concession).due -/
def f_lease_Concession_due_r0 : List Abs.Op := [
  ⟨some 2, none, false, .boxi (.t 0)⟩,
  ⟨some 4, none, false, .nilb 1⟩,
  ⟨some 5, none, false, .mv (.c (.int .i64 0))⟩]

def f_lease_Concession_due_r1 : List Abs.Op := [
  ⟨some 11, none, false, .mv (.t 1)⟩,
  ⟨some 12, none, false, .call false (.c (.fn i_lease_sum [] [])) [(.t 11)]⟩,
  ⟨some 5, none, false, .mv (.t 12)⟩]

def f_lease_Concession_due_r2 : List Abs.Op := [
  ⟨some 13, none, false, .fadr 0 (.t 2)⟩,
  ⟨some 14, none, false, .ld false 1 (.t 13)⟩,
  ⟨some 15, none, false, .mv (.c (.int .i64 0))⟩]

def f_lease_Concession_due_r3 : List Abs.Op := [
  ⟨some 16, none, false, .bin .lss (.t 15) (.t 14)⟩]

def f_lease_Concession_due_r4 : List Abs.Op := [
  ⟨some 17, none, false, .mv (.t 15)⟩,
  ⟨some 6, none, false, .mv (.t 17)⟩]

def f_lease_Concession_due_r5 : List Abs.Op := [
  ⟨some 7, none, false, .mv (.c (.int .i64 0))⟩,
  ⟨some 8, none, false, .mv (.c (.int .i64 0))⟩]

def f_lease_Concession_due_r6 : List Abs.Op := [
  ⟨some 18, none, false, .mv (.t 1)⟩,
  ⟨some 19, none, false, .lenS (.t 18)⟩,
  ⟨some 20, none, false, .mv (.c (.int .i64 0))⟩]

def f_lease_Concession_due_r7 : List Abs.Op := [
  ⟨some 21, none, false, .bin .lss (.t 20) (.t 19)⟩]

def f_lease_Concession_due_r8 : List Abs.Op := [
  ⟨some 22, none, false, .mv (.t 20)⟩,
  ⟨some 23, none, false, .idxS 1 (.t 18) (.t 20)⟩,
  ⟨some 24, none, false, .ld false 1 (.t 23)⟩,
  ⟨some 9, none, false, .mv (.t 22)⟩,
  ⟨some 10, none, false, .mv (.t 24)⟩]

def f_lease_Concession_due_r9 : List Abs.Op := [
  ⟨some 25, none, false, .mv (.t 7)⟩,
  ⟨some 26, none, false, .mv (.t 10)⟩,
  ⟨some 27, none, false, .bin .quo (.t 26) (.c (.int .i64 1000))⟩,
  ⟨some 28, none, false, .fadr 1 (.t 2)⟩,
  ⟨some 29, none, false, .ld false 1 (.t 28)⟩,
  ⟨some 30, none, false, .mv (.t 9)⟩,
  ⟨some 31, none, false, .idxS 1 (.t 29) (.t 30)⟩,
  ⟨some 32, none, false, .ld false 1 (.t 31)⟩,
  ⟨some 33, none, false, .mv (.t 6)⟩,
  ⟨some 34, none, false, .idxS 1 (.t 32) (.t 33)⟩,
  ⟨some 35, none, false, .ld false 1 (.t 34)⟩,
  ⟨some 36, none, false, .bin .mul (.t 27) (.t 35)⟩,
  ⟨some 37, none, false, .bin .add (.t 25) (.t 36)⟩,
  ⟨some 7, none, false, .mv (.t 37)⟩]

def f_lease_Concession_due_r10 : List Abs.Op := [
  ⟨some 38, none, false, .mv (.t 8)⟩,
  ⟨some 39, none, false, .mv (.t 10)⟩,
  ⟨some 40, none, false, .bin .rem (.t 39) (.c (.int .i64 1000))⟩,
  ⟨some 41, none, false, .fadr 1 (.t 2)⟩,
  ⟨some 42, none, false, .ld false 1 (.t 41)⟩,
  ⟨some 43, none, false, .mv (.t 9)⟩,
  ⟨some 44, none, false, .idxS 1 (.t 42) (.t 43)⟩,
  ⟨some 45, none, false, .ld false 1 (.t 44)⟩,
  ⟨some 46, none, false, .mv (.t 6)⟩,
  ⟨some 47, none, false, .idxS 1 (.t 45) (.t 46)⟩,
  ⟨some 48, none, false, .ld false 1 (.t 47)⟩,
  ⟨some 49, none, false, .bin .mul (.t 40) (.t 48)⟩,
  ⟨some 50, none, false, .bin .add (.t 38) (.t 49)⟩,
  ⟨some 8, none, false, .mv (.t 50)⟩]

def f_lease_Concession_due_r11 : List Abs.Op := [
  ⟨some 51, none, false, .bin .add (.t 20) (.c (.int .i64 1))⟩,
  ⟨some 20, none, false, .mv (.t 51)⟩]

def f_lease_Concession_due_l12 : Abs.Cmd :=
  (.seq (.reg [1, 2, 4, 5, 6, 7, 8, 14, 15, 18, 19, 20, 21] f_lease_Concession_due_r7) (.seq (.ite (.t 21) .nop (.exit 2)) (.seq (.blk 3 (.seq (.reg [1, 2, 4, 5, 6, 7, 8, 9, 10, 14, 15, 18, 19, 20] f_lease_Concession_due_r8) (.seq (.reg [1, 2, 4, 5, 6, 7, 8, 9, 10, 14, 15, 18, 19, 20] f_lease_Concession_due_r9) (.reg [1, 2, 4, 5, 6, 7, 8, 14, 15, 18, 19, 20] f_lease_Concession_due_r10)))) (.reg [1, 2, 4, 5, 6, 7, 8, 14, 15, 18, 19, 20] f_lease_Concession_due_r11))))

def f_lease_Concession_due_r13 : List Abs.Op := [
  ⟨some 52, none, false, .mv (.t 4)⟩,
  ⟨some 53, none, false, .mv (.t 7)⟩,
  ⟨some 54, none, false, .mv (.t 8)⟩,
  ⟨some 55, none, false, .bin .quo (.t 54) (.c (.int .i64 1000))⟩,
  ⟨some 56, none, false, .bin .add (.t 53) (.t 55)⟩,
  ⟨some 57, none, false, .bsi 1 1 [(.int .i64 0)] [(0, 1, (.t 56))]⟩,
  ⟨some 58, none, false, .app 1 8 (.t 52) (.t 57)⟩,
  ⟨some 4, none, false, .mv (.t 58)⟩]

def f_lease_Concession_due_r14 : List Abs.Op := [
  ⟨some 59, none, false, .mv (.t 5)⟩,
  ⟨some 60, none, false, .mv (.t 4)⟩,
  ⟨some 61, none, false, .mv (.t 6)⟩,
  ⟨some 62, none, false, .idxS 1 (.t 60) (.t 61)⟩,
  ⟨some 63, none, false, .ld false 1 (.t 62)⟩,
  ⟨some 64, none, false, .bin .sub (.t 59) (.t 63)⟩,
  ⟨some 5, none, false, .mv (.t 64)⟩]

def f_lease_Concession_due_r15 : List Abs.Op := [
  ⟨some 65, none, false, .bin .add (.t 15) (.c (.int .i64 1))⟩,
  ⟨some 15, none, false, .mv (.t 65)⟩]

def f_lease_Concession_due_l16 : Abs.Cmd :=
  (.seq (.reg [1, 2, 4, 5, 14, 15, 16] f_lease_Concession_due_r3) (.seq (.ite (.t 16) .nop (.exit 0)) (.seq (.blk 1 (.seq (.reg [1, 2, 4, 5, 6, 14, 15] f_lease_Concession_due_r4) (.seq (.reg [1, 2, 4, 5, 6, 7, 8, 14, 15] f_lease_Concession_due_r5) (.seq (.seq (.reg [1, 2, 4, 5, 6, 7, 8, 14, 15, 18, 19, 20] f_lease_Concession_due_r6) (.blk 2 (.loop [1, 2, 4, 5, 6, 7, 8, 14, 15, 18, 19, 20] false f_lease_Concession_due_l12))) (.seq (.reg [1, 2, 4, 5, 6, 14, 15] f_lease_Concession_due_r13) (.reg [1, 2, 4, 5, 14, 15] f_lease_Concession_due_r14)))))) (.reg [1, 2, 4, 5, 14, 15] f_lease_Concession_due_r15))))

def f_lease_Concession_due_r17 : List Abs.Op := [
  ⟨some 66, none, false, .mv (.t 4)⟩,
  ⟨some 67, none, false, .mv (.t 5)⟩,
  ⟨some 4, none, false, .mv (.t 66)⟩,
  ⟨some 5, none, false, .mv (.t 67)⟩]

def a_lease_Concession_due : Ann := ⟨[(15, [4, 5]), (14, [1, 2, 4, 5, 14, 15]), (13, [1, 2, 4, 5, 14, 15]), (12, [1, 2, 4, 5, 6, 14, 15]), (11, [1, 2, 4, 5, 6, 7, 8, 14, 15, 18, 19, 20]), (10, [1, 2, 4, 5, 6, 7, 8, 14, 15, 18, 19, 20]), (9, [1, 2, 4, 5, 6, 7, 8, 9, 10, 14, 15, 18, 19, 20]), (8, [1, 2, 4, 5, 6, 7, 8, 9, 10, 14, 15, 18, 19, 20]), (7, [1, 2, 4, 5, 6, 7, 8, 14, 15, 18, 19, 20, 21]), (6, [1, 2, 4, 5, 6, 7, 8, 14, 15, 18, 19, 20]), (5, [1, 2, 4, 5, 6, 7, 8, 14, 15]), (4, [1, 2, 4, 5, 6, 14, 15]), (3, [1, 2, 4, 5, 14, 15, 16]), (2, [1, 2, 4, 5, 14, 15]), (1, [1, 2, 4, 5]), (0, [1, 2, 4])], [(2, [1, 2, 4, 5, 6, 7, 8, 14, 15, 18, 19, 20]), (0, [1, 2, 4, 5, 14, 15])], [], [4], [], [], [], [], [], []⟩
def f_lease_Concession_due : Abs.Fn := ⟨2, [.t 4, .t 5],
  (.seq (.reg [1, 2, 4] f_lease_Concession_due_r0) (.seq (.reg [1, 2, 4, 5] f_lease_Concession_due_r1) (.seq (.seq (.reg [1, 2, 4, 5, 14, 15] f_lease_Concession_due_r2) (.blk 0 (.loop [1, 2, 4, 5, 14, 15] false f_lease_Concession_due_l16))) (.seq (.reg [4, 5] f_lease_Concession_due_r17) .ret))))⟩

theorem e_lease_Concession_due_r0 : type_of% f_lease_Concession_due_r0.eq_1 := by_rfl f_lease_Concession_due_r0.eq_1
theorem e_lease_Concession_due_r1 : type_of% f_lease_Concession_due_r1.eq_1 := by_rfl f_lease_Concession_due_r1.eq_1
theorem e_lease_Concession_due_r2 : type_of% f_lease_Concession_due_r2.eq_1 := by_rfl f_lease_Concession_due_r2.eq_1
theorem e_lease_Concession_due_r3 : type_of% f_lease_Concession_due_r3.eq_1 := by_rfl f_lease_Concession_due_r3.eq_1
theorem e_lease_Concession_due_r4 : type_of% f_lease_Concession_due_r4.eq_1 := by_rfl f_lease_Concession_due_r4.eq_1
theorem e_lease_Concession_due_r5 : type_of% f_lease_Concession_due_r5.eq_1 := by_rfl f_lease_Concession_due_r5.eq_1
theorem e_lease_Concession_due_r6 : type_of% f_lease_Concession_due_r6.eq_1 := by_rfl f_lease_Concession_due_r6.eq_1
theorem e_lease_Concession_due_r7 : type_of% f_lease_Concession_due_r7.eq_1 := by_rfl f_lease_Concession_due_r7.eq_1
theorem e_lease_Concession_due_r8 : type_of% f_lease_Concession_due_r8.eq_1 := by_rfl f_lease_Concession_due_r8.eq_1
theorem e_lease_Concession_due_r9 : type_of% f_lease_Concession_due_r9.eq_1 := by_rfl f_lease_Concession_due_r9.eq_1
theorem e_lease_Concession_due_r10 : type_of% f_lease_Concession_due_r10.eq_1 := by_rfl f_lease_Concession_due_r10.eq_1
theorem e_lease_Concession_due_r11 : type_of% f_lease_Concession_due_r11.eq_1 := by_rfl f_lease_Concession_due_r11.eq_1
theorem e_lease_Concession_due_l12 : type_of% f_lease_Concession_due_l12.eq_1 := by_rfl f_lease_Concession_due_l12.eq_1
theorem e_lease_Concession_due_r13 : type_of% f_lease_Concession_due_r13.eq_1 := by_rfl f_lease_Concession_due_r13.eq_1
theorem e_lease_Concession_due_r14 : type_of% f_lease_Concession_due_r14.eq_1 := by_rfl f_lease_Concession_due_r14.eq_1
theorem e_lease_Concession_due_r15 : type_of% f_lease_Concession_due_r15.eq_1 := by_rfl f_lease_Concession_due_r15.eq_1
theorem e_lease_Concession_due_l16 : type_of% f_lease_Concession_due_l16.eq_1 := by_rfl f_lease_Concession_due_l16.eq_1
theorem e_lease_Concession_due_r17 : type_of% f_lease_Concession_due_r17.eq_1 := by_rfl f_lease_Concession_due_r17.eq_1
theorem e_lease_Concession_due : type_of% f_lease_Concession_due.eq_1 := by_rfl f_lease_Concession_due.eq_1
theorem ok_lease_Concession_due : fnC Tryz.prog a_lease_Concession_due Tryz.f67 = some f_lease_Concession_due := by kernel_rfl

/-! 69 (fumarole/lease.Programme).planned -/
def f_lease_Programme_planned_r0 : List Abs.Op := [
  ⟨some 2, none, false, .boxi (.t 0)⟩,
  ⟨some 4, none, false, .mv (.c (.bool false))⟩]

def f_lease_Programme_planned_r1 : List Abs.Op := [
  ⟨some 5, none, false, .mv (.t 1)⟩,
  ⟨some 6, none, false, .lenS (.t 5)⟩,
  ⟨some 7, none, false, .fadr 4 (.t 2)⟩,
  ⟨some 8, none, false, .ld false 1 (.t 7)⟩,
  ⟨some 9, none, false, .lenS (.t 8)⟩,
  ⟨some 10, none, false, .bin .eql (.t 6) (.t 9)⟩,
  ⟨some 11, none, false, .mv (.t 10)⟩,
  ⟨some 12, some (11, true), false, .mv (.t 1)⟩,
  ⟨some 13, some (11, true), false, .mkf i_lease_Programme_planned_1 [] [(.t 2)]⟩,
  ⟨some 14, some (11, true), false, .call false (.c (.fn i_lease_all_int [] [])) [(.t 12), (.t 13)]⟩,
  ⟨some 15, none, false, .pick (.t 11) (.t 14) (.c (.bool false))⟩,
  ⟨some 4, none, false, .mv (.t 15)⟩]

def a_lease_Programme_planned : Ann := ⟨[(1, [4]), (0, [1, 2])], [], [], [], [], [], [], [], [], []⟩
def f_lease_Programme_planned : Abs.Fn := ⟨2, [.t 4],
  (.seq (.reg [1, 2] f_lease_Programme_planned_r0) (.seq (.reg [4] f_lease_Programme_planned_r1) .ret))⟩

theorem e_lease_Programme_planned_r0 : type_of% f_lease_Programme_planned_r0.eq_1 := by_rfl f_lease_Programme_planned_r0.eq_1
theorem e_lease_Programme_planned_r1 : type_of% f_lease_Programme_planned_r1.eq_1 := by_rfl f_lease_Programme_planned_r1.eq_1
theorem e_lease_Programme_planned : type_of% f_lease_Programme_planned.eq_1 := by_rfl f_lease_Programme_planned.eq_1
theorem ok_lease_Programme_planned : fnC Tryz.prog a_lease_Programme_planned Tryz.f69 = some f_lease_Programme_planned := by kernel_rfl

/-! 70 fumarole/lease.all[[]fumarole/lease.Rung] -/
def f_lease_all_L_lease_Rung_r0 : List Abs.Op := [
  ⟨some 3, none, false, .boxi (.t 1)⟩,
  ⟨some 4, none, false, .mv (.c (.bool false))⟩]

def f_lease_all_L_lease_Rung_r1 : List Abs.Op := [
  ⟨some 5, none, false, .mv (.t 0)⟩,
  ⟨some 6, none, false, .mkf i_lease_all_L_lease_Rung_1 [] [(.t 3)]⟩,
  ⟨some 7, none, false, .call false (.c (.fn i_slices_ContainsFunc_L_lease_Rung [] [])) [(.t 5), (.t 6)]⟩,
  ⟨some 8, none, false, .un .not (.t 7)⟩,
  ⟨some 4, none, false, .mv (.t 8)⟩]

def a_lease_all_L_lease_Rung : Ann := ⟨[(1, [4]), (0, [0, 3])], [], [], [], [], [], [], [], [], []⟩
def f_lease_all_L_lease_Rung : Abs.Fn := ⟨2, [.t 4],
  (.seq (.reg [0, 3] f_lease_all_L_lease_Rung_r0) (.seq (.reg [4] f_lease_all_L_lease_Rung_r1) .ret))⟩

theorem e_lease_all_L_lease_Rung_r0 : type_of% f_lease_all_L_lease_Rung_r0.eq_1 := by_rfl f_lease_all_L_lease_Rung_r0.eq_1
theorem e_lease_all_L_lease_Rung_r1 : type_of% f_lease_all_L_lease_Rung_r1.eq_1 := by_rfl f_lease_all_L_lease_Rung_r1.eq_1
theorem e_lease_all_L_lease_Rung : type_of% f_lease_all_L_lease_Rung.eq_1 := by_rfl f_lease_all_L_lease_Rung.eq_1
theorem ok_lease_all_L_lease_Rung : fnC Tryz.prog a_lease_all_L_lease_Rung Tryz.f70 = some f_lease_all_L_lease_Rung := by kernel_rfl

/-! 71 fumarole/lease.ProveDrill$1 -/
def f_lease_ProveDrill_1_r0 : List Abs.Op := [
  ⟨some 2, none, false, .mv (.c (.bool false))⟩]

def f_lease_ProveDrill_1_r1 : List Abs.Op := [
  ⟨some 3, none, false, .mv (.t 0)⟩,
  ⟨some 4, none, false, .call false (.c (.fn i_lease_ladder_right [] [])) [(.t 3)]⟩,
  ⟨some 2, none, false, .mv (.t 4)⟩]

def a_lease_ProveDrill_1 : Ann := ⟨[(1, [2]), (0, [0])], [], [], [], [], [], [], [], [], []⟩
def f_lease_ProveDrill_1 : Abs.Fn := ⟨1, [.t 2],
  (.seq (.reg [0] f_lease_ProveDrill_1_r0) (.seq (.reg [2] f_lease_ProveDrill_1_r1) .ret))⟩

theorem e_lease_ProveDrill_1_r0 : type_of% f_lease_ProveDrill_1_r0.eq_1 := by_rfl f_lease_ProveDrill_1_r0.eq_1
theorem e_lease_ProveDrill_1_r1 : type_of% f_lease_ProveDrill_1_r1.eq_1 := by_rfl f_lease_ProveDrill_1_r1.eq_1
theorem e_lease_ProveDrill_1 : type_of% f_lease_ProveDrill_1.eq_1 := by_rfl f_lease_ProveDrill_1.eq_1
theorem ok_lease_ProveDrill_1 : fnC Tryz.prog a_lease_ProveDrill_1 Tryz.f71 = some f_lease_ProveDrill_1 := by kernel_rfl

/-! 72 (fumarole/lease.ladder).right -/
def f_lease_ladder_right_r0 : List Abs.Op := [
  ⟨some 2, none, false, .mv (.c (.bool false))⟩]

def f_lease_ladder_right_r1 : List Abs.Op := [
  ⟨some 5, none, false, .mv (.t 0)⟩,
  ⟨some 6, none, false, .lenS (.t 5)⟩,
  ⟨some 7, none, false, .mv (.c (.int .i64 0))⟩]

def f_lease_ladder_right_r2 : List Abs.Op := [
  ⟨some 8, none, false, .bin .lss (.t 7) (.t 6)⟩]

def f_lease_ladder_right_r3 : List Abs.Op := [
  ⟨some 9, none, false, .mv (.t 7)⟩,
  ⟨some 10, none, false, .idxS 2 (.t 5) (.t 7)⟩,
  ⟨some 11, none, false, .ld true 2 (.t 10)⟩,
  ⟨some 4, none, false, .alcv [] [(.int .i64 0), (.int .i64 0)]⟩,
  ⟨some 3, none, false, .mv (.t 9)⟩,
  ⟨none, none, false, .stv 4 [] 2 4 (.t 11)⟩]

def f_lease_ladder_right_r4 : List Abs.Op := [
  ⟨some 12, none, true, .fadr 1 (.t 4)⟩,
  ⟨some 13, none, true, .ldv 4 false 1 12⟩,
  ⟨some 14, none, true, .call false (.c (.fn i_lease_within [] [])) [(.t 13), (.c (.int .i64 0)), (.c (.int .i64 1000000000000))]⟩,
  ⟨some 15, none, true, .un .not (.t 14)⟩,
  ⟨some 16, none, true, .mv (.t 15)⟩,
  ⟨some 17, some (16, false), true, .mv (.t 3)⟩,
  ⟨some 18, some (16, false), true, .bin .gtr (.t 17) (.c (.int .i64 0))⟩,
  ⟨some 19, some (16, false), true, .mv (.t 18)⟩,
  ⟨some 20, some (19, true), true, .fadr 0 (.t 4)⟩,
  ⟨some 21, some (19, true), true, .ldv 4 false 1 20⟩,
  ⟨some 22, some (19, true), true, .mv (.t 0)⟩,
  ⟨some 23, some (19, true), true, .mv (.t 3)⟩,
  ⟨some 24, some (19, true), true, .bin .sub (.t 23) (.c (.int .i64 1))⟩,
  ⟨some 25, some (19, true), true, .idxS 2 (.t 22) (.t 24)⟩,
  ⟨some 26, some (19, true), true, .fadr 0 (.t 25)⟩,
  ⟨some 27, some (19, true), true, .ld false 1 (.t 26)⟩,
  ⟨some 28, some (19, true), true, .bin .leq (.t 21) (.t 27)⟩,
  ⟨some 29, some (19, true), true, .mv (.t 28)⟩,
  ⟨some 30, some (29, false), true, .fadr 1 (.t 4)⟩,
  ⟨some 31, some (29, false), true, .ldv 4 false 1 30⟩,
  ⟨some 32, some (29, false), true, .mv (.t 0)⟩,
  ⟨some 33, some (29, false), true, .mv (.t 3)⟩,
  ⟨some 34, some (29, false), true, .bin .sub (.t 33) (.c (.int .i64 1))⟩,
  ⟨some 35, some (29, false), true, .idxS 2 (.t 32) (.t 34)⟩,
  ⟨some 36, some (29, false), true, .fadr 1 (.t 35)⟩,
  ⟨some 37, some (29, false), true, .ld false 1 (.t 36)⟩,
  ⟨some 38, some (29, false), false, .bin .geq (.t 31) (.t 37)⟩,
  ⟨some 39, some (19, true), false, .pick (.t 29) (.c (.bool true)) (.t 38)⟩,
  ⟨some 40, some (16, false), false, .pick (.t 19) (.t 39) (.c (.bool false))⟩,
  ⟨some 41, none, false, .pick (.t 16) (.c (.bool true)) (.t 40)⟩]

def f_lease_ladder_right_r5 : List Abs.Op := [
  ⟨some 2, none, false, .mv (.c (.bool false))⟩]

def f_lease_ladder_right_r6 : List Abs.Op := [
  ⟨some 42, none, false, .bin .add (.t 7) (.c (.int .i64 1))⟩,
  ⟨some 7, none, false, .mv (.t 42)⟩]

def f_lease_ladder_right_l7 : Abs.Cmd :=
  (.seq (.reg [0, 5, 6, 7, 8] f_lease_ladder_right_r2) (.seq (.ite (.t 8) .nop (.exit 0)) (.seq (.blk 1 (.seq (.reg [0, 3, 4, 5, 6, 7] f_lease_ladder_right_r3) (.seq (.reg [0, 5, 6, 7, 41] f_lease_ladder_right_r4) (.ite (.t 41) (.seq (.reg [2] f_lease_ladder_right_r5) .ret) .nop)))) (.reg [0, 5, 6, 7] f_lease_ladder_right_r6))))

def f_lease_ladder_right_r8 : List Abs.Op := [
  ⟨some 43, none, false, .mv (.t 0)⟩,
  ⟨some 44, none, false, .lenS (.t 43)⟩,
  ⟨some 45, none, false, .call false (.c (.fn i_lease_within [] [])) [(.t 44), (.c (.int .i64 1)), (.c (.int .i64 70000))]⟩,
  ⟨some 46, none, false, .mv (.t 45)⟩,
  ⟨some 47, some (46, true), false, .mv (.t 0)⟩,
  ⟨some 48, some (46, true), false, .idxS 2 (.t 47) (.c (.int .i64 0))⟩,
  ⟨some 49, some (46, true), false, .fadr 0 (.t 48)⟩,
  ⟨some 50, some (46, true), false, .ld false 1 (.t 49)⟩,
  ⟨some 51, some (46, true), false, .bin .geq (.t 50) (.c (.int .i64 0))⟩,
  ⟨some 52, none, false, .pick (.t 46) (.t 51) (.c (.bool false))⟩,
  ⟨some 53, none, false, .mv (.t 52)⟩,
  ⟨some 54, some (53, true), false, .mv (.t 0)⟩,
  ⟨some 55, some (53, true), false, .mv (.t 0)⟩,
  ⟨some 56, some (53, true), false, .lenS (.t 55)⟩,
  ⟨some 57, some (53, true), false, .bin .sub (.t 56) (.c (.int .i64 1))⟩,
  ⟨some 58, some (53, true), false, .idxS 2 (.t 54) (.t 57)⟩,
  ⟨some 59, some (53, true), false, .fadr 0 (.t 58)⟩,
  ⟨some 60, some (53, true), false, .ld false 1 (.t 59)⟩,
  ⟨some 61, some (53, true), false, .bin .eql (.t 60) (.c (.int .i64 100000000))⟩,
  ⟨some 62, none, false, .pick (.t 53) (.t 61) (.c (.bool false))⟩,
  ⟨some 2, none, false, .mv (.t 62)⟩]

def a_lease_ladder_right : Ann := ⟨[(7, [2]), (6, [0, 5, 6, 7]), (5, [2]), (4, [0, 5, 6, 7, 41]), (3, [0, 3, 4, 5, 6, 7]), (2, [0, 5, 6, 7, 8]), (1, [0, 5, 6, 7]), (0, [0])], [(0, [0, 5, 6, 7])], [], [4], [4], [], [], [], [], []⟩
def f_lease_ladder_right : Abs.Fn := ⟨1, [.t 2],
  (.seq (.reg [0] f_lease_ladder_right_r0) (.seq (.seq (.reg [0, 5, 6, 7] f_lease_ladder_right_r1) (.blk 0 (.loop [0, 5, 6, 7] false f_lease_ladder_right_l7))) (.seq (.reg [2] f_lease_ladder_right_r8) .ret)))⟩

theorem e_lease_ladder_right_r0 : type_of% f_lease_ladder_right_r0.eq_1 := by_rfl f_lease_ladder_right_r0.eq_1
theorem e_lease_ladder_right_r1 : type_of% f_lease_ladder_right_r1.eq_1 := by_rfl f_lease_ladder_right_r1.eq_1
theorem e_lease_ladder_right_r2 : type_of% f_lease_ladder_right_r2.eq_1 := by_rfl f_lease_ladder_right_r2.eq_1
theorem e_lease_ladder_right_r3 : type_of% f_lease_ladder_right_r3.eq_1 := by_rfl f_lease_ladder_right_r3.eq_1
theorem e_lease_ladder_right_r4 : type_of% f_lease_ladder_right_r4.eq_1 := by_rfl f_lease_ladder_right_r4.eq_1
theorem e_lease_ladder_right_r5 : type_of% f_lease_ladder_right_r5.eq_1 := by_rfl f_lease_ladder_right_r5.eq_1
theorem e_lease_ladder_right_r6 : type_of% f_lease_ladder_right_r6.eq_1 := by_rfl f_lease_ladder_right_r6.eq_1
theorem e_lease_ladder_right_l7 : type_of% f_lease_ladder_right_l7.eq_1 := by_rfl f_lease_ladder_right_l7.eq_1
theorem e_lease_ladder_right_r8 : type_of% f_lease_ladder_right_r8.eq_1 := by_rfl f_lease_ladder_right_r8.eq_1
theorem e_lease_ladder_right : type_of% f_lease_ladder_right.eq_1 := by_rfl f_lease_ladder_right.eq_1
theorem ok_lease_ladder_right : fnC Tryz.prog a_lease_ladder_right Tryz.f72 = some f_lease_ladder_right := by kernel_rfl

/-! 73 (fumarole/lease.Programme).follow -/
def f_lease_Programme_follow_r0 : List Abs.Op := [
  ⟨some 3, none, false, .boxi (.t 0)⟩,
  ⟨some 6, none, false, .mv (.c (.int .i64 0))⟩,
  ⟨some 7, none, false, .mv (.c (.bool false))⟩]

def f_lease_Programme_follow_r1 : List Abs.Op := [
  ⟨some 12, none, false, .fadr 0 (.t 3)⟩,
  ⟨some 13, none, false, .ld false 1 (.t 12)⟩,
  ⟨some 8, none, false, .mv (.t 13)⟩]

def f_lease_Programme_follow_r2 : List Abs.Op := [
  ⟨some 14, none, false, .mv (.t 1)⟩,
  ⟨some 15, none, false, .lenS (.t 14)⟩,
  ⟨some 16, none, false, .mv (.c (.int .i64 0))⟩]

def f_lease_Programme_follow_r3 : List Abs.Op := [
  ⟨some 17, none, false, .bin .lss (.t 16) (.t 15)⟩]

def f_lease_Programme_follow_r4 : List Abs.Op := [
  ⟨some 18, none, false, .mv (.t 16)⟩,
  ⟨some 19, none, false, .idxS 1 (.t 14) (.t 16)⟩,
  ⟨some 20, none, false, .ld false 1 (.t 19)⟩,
  ⟨some 9, none, false, .mv (.t 18)⟩,
  ⟨some 10, none, false, .mv (.t 20)⟩]

def f_lease_Programme_follow_r5 : List Abs.Op := [
  ⟨some 21, none, false, .ld true 5 (.t 3)⟩,
  ⟨some 22, none, false, .mv (.t 9)⟩,
  ⟨some 23, none, false, .mv (.t 8)⟩,
  ⟨some 24, none, false, .mv (.t 10)⟩,
  ⟨some 25, none, false, .call false (.c (.fn i_lease_Programme_meets [] [])) [(.t 21), (.t 22), (.t 23), (.t 24)]⟩,
  ⟨some 26, none, false, .un .not (.t 25)⟩]

def f_lease_Programme_follow_r6 : List Abs.Op := [
  ⟨some 6, none, false, .mv (.c (.int .i64 0))⟩,
  ⟨some 7, none, false, .mv (.c (.bool false))⟩]

def f_lease_Programme_follow_r7 : List Abs.Op := [
  ⟨some 27, none, false, .mv (.t 2)⟩,
  ⟨some 28, none, false, .mv (.t 8)⟩,
  ⟨some 29, none, false, .mv (.t 10)⟩,
  ⟨some 30, none, false, .fadr 1 (.t 3)⟩,
  ⟨some 31, none, false, .ld false 1 (.t 30)⟩,
  ⟨some 32, none, false, .bin .mul (.t 29) (.t 31)⟩,
  ⟨some 33, none, false, .bin .add (.t 28) (.t 32)⟩,
  ⟨some 34, none, false, .call false (.t 27) [(.t 33)]⟩]

def f_lease_Programme_follow_r8 : List Abs.Op := [
  ⟨some 35, none, false, .fadr 4 (.t 3)⟩,
  ⟨some 36, none, false, .ld false 1 (.t 35)⟩,
  ⟨some 37, none, false, .mv (.t 9)⟩,
  ⟨some 38, none, false, .idxS 2 (.t 36) (.t 37)⟩,
  ⟨some 39, none, false, .ld true 2 (.t 38)⟩,
  ⟨some 40, none, false, .mkf i_lease_Year_cost [(.t 39)] []⟩,
  ⟨some 11, none, false, .mv (.t 40)⟩]

def f_lease_Programme_follow_r9 : List Abs.Op := [
  ⟨some 41, none, false, .mv (.t 6)⟩,
  ⟨some 42, none, false, .mv (.t 11)⟩,
  ⟨some 43, none, false, .mv (.t 10)⟩,
  ⟨some 44, none, false, .call false (.t 42) [(.t 43)]⟩,
  ⟨some 45, none, false, .bin .add (.t 41) (.t 44)⟩,
  ⟨some 6, none, false, .mv (.t 45)⟩]

def f_lease_Programme_follow_r10 : List Abs.Op := [
  ⟨some 46, none, false, .ld true 5 (.t 3)⟩,
  ⟨some 47, none, false, .mv (.t 8)⟩,
  ⟨some 48, none, false, .mv (.t 10)⟩,
  ⟨some 49, none, false, .call false (.c (.fn i_lease_Programme_after [] [])) [(.t 46), (.t 47), (.t 48)]⟩,
  ⟨some 8, none, false, .mv (.t 49)⟩]

def f_lease_Programme_follow_r11 : List Abs.Op := [
  ⟨some 50, none, false, .bin .add (.t 16) (.c (.int .i64 1))⟩,
  ⟨some 16, none, false, .mv (.t 50)⟩]

def f_lease_Programme_follow_l12 : Abs.Cmd :=
  (.seq (.reg [2, 3, 6, 8, 14, 15, 16, 17] f_lease_Programme_follow_r3) (.seq (.ite (.t 17) .nop (.exit 0)) (.seq (.blk 1 (.seq (.reg [2, 3, 6, 8, 9, 10, 14, 15, 16] f_lease_Programme_follow_r4) (.seq (.seq (.reg [2, 3, 6, 8, 9, 10, 14, 15, 16, 26] f_lease_Programme_follow_r5) (.ite (.t 26) (.seq (.reg [6, 7] f_lease_Programme_follow_r6) .ret) .nop)) (.seq (.reg [2, 3, 6, 8, 9, 10, 14, 15, 16] f_lease_Programme_follow_r7) (.seq (.reg [2, 3, 6, 8, 10, 11, 14, 15, 16] f_lease_Programme_follow_r8) (.seq (.reg [2, 3, 6, 8, 10, 14, 15, 16] f_lease_Programme_follow_r9) (.reg [2, 3, 6, 8, 14, 15, 16] f_lease_Programme_follow_r10))))))) (.reg [2, 3, 6, 8, 14, 15, 16] f_lease_Programme_follow_r11))))

def f_lease_Programme_follow_r13 : List Abs.Op := [
  ⟨some 51, none, false, .mv (.t 6)⟩,
  ⟨some 6, none, false, .mv (.t 51)⟩,
  ⟨some 7, none, false, .mv (.c (.bool true))⟩]

def a_lease_Programme_follow : Ann := ⟨[(12, [6, 7]), (11, [2, 3, 6, 8, 14, 15, 16]), (10, [2, 3, 6, 8, 14, 15, 16]), (9, [2, 3, 6, 8, 10, 14, 15, 16]), (8, [2, 3, 6, 8, 10, 11, 14, 15, 16]), (7, [2, 3, 6, 8, 9, 10, 14, 15, 16]), (6, [6, 7]), (5, [2, 3, 6, 8, 9, 10, 14, 15, 16, 26]), (4, [2, 3, 6, 8, 9, 10, 14, 15, 16]), (3, [2, 3, 6, 8, 14, 15, 16, 17]), (2, [2, 3, 6, 8, 14, 15, 16]), (1, [1, 2, 3, 6, 8]), (0, [1, 2, 3, 6])], [(0, [2, 3, 6, 8, 14, 15, 16])], [], [], [], [], [], [], [], []⟩
def f_lease_Programme_follow : Abs.Fn := ⟨3, [.t 6, .t 7],
  (.seq (.reg [1, 2, 3, 6] f_lease_Programme_follow_r0) (.seq (.reg [1, 2, 3, 6, 8] f_lease_Programme_follow_r1) (.seq (.seq (.reg [2, 3, 6, 8, 14, 15, 16] f_lease_Programme_follow_r2) (.blk 0 (.loop [2, 3, 6, 8, 14, 15, 16] false f_lease_Programme_follow_l12))) (.seq (.reg [6, 7] f_lease_Programme_follow_r13) .ret))))⟩

theorem e_lease_Programme_follow_r0 : type_of% f_lease_Programme_follow_r0.eq_1 := by_rfl f_lease_Programme_follow_r0.eq_1
theorem e_lease_Programme_follow_r1 : type_of% f_lease_Programme_follow_r1.eq_1 := by_rfl f_lease_Programme_follow_r1.eq_1
theorem e_lease_Programme_follow_r2 : type_of% f_lease_Programme_follow_r2.eq_1 := by_rfl f_lease_Programme_follow_r2.eq_1
theorem e_lease_Programme_follow_r3 : type_of% f_lease_Programme_follow_r3.eq_1 := by_rfl f_lease_Programme_follow_r3.eq_1
theorem e_lease_Programme_follow_r4 : type_of% f_lease_Programme_follow_r4.eq_1 := by_rfl f_lease_Programme_follow_r4.eq_1
theorem e_lease_Programme_follow_r5 : type_of% f_lease_Programme_follow_r5.eq_1 := by_rfl f_lease_Programme_follow_r5.eq_1
theorem e_lease_Programme_follow_r6 : type_of% f_lease_Programme_follow_r6.eq_1 := by_rfl f_lease_Programme_follow_r6.eq_1
theorem e_lease_Programme_follow_r7 : type_of% f_lease_Programme_follow_r7.eq_1 := by_rfl f_lease_Programme_follow_r7.eq_1
theorem e_lease_Programme_follow_r8 : type_of% f_lease_Programme_follow_r8.eq_1 := by_rfl f_lease_Programme_follow_r8.eq_1
theorem e_lease_Programme_follow_r9 : type_of% f_lease_Programme_follow_r9.eq_1 := by_rfl f_lease_Programme_follow_r9.eq_1
theorem e_lease_Programme_follow_r10 : type_of% f_lease_Programme_follow_r10.eq_1 := by_rfl f_lease_Programme_follow_r10.eq_1
theorem e_lease_Programme_follow_r11 : type_of% f_lease_Programme_follow_r11.eq_1 := by_rfl f_lease_Programme_follow_r11.eq_1
theorem e_lease_Programme_follow_l12 : type_of% f_lease_Programme_follow_l12.eq_1 := by_rfl f_lease_Programme_follow_l12.eq_1
theorem e_lease_Programme_follow_r13 : type_of% f_lease_Programme_follow_r13.eq_1 := by_rfl f_lease_Programme_follow_r13.eq_1
theorem e_lease_Programme_follow : type_of% f_lease_Programme_follow.eq_1 := by_rfl f_lease_Programme_follow.eq_1
theorem ok_lease_Programme_follow : fnC Tryz.prog a_lease_Programme_follow Tryz.f73 = some f_lease_Programme_follow := by kernel_rfl

/-! 74 fumarole/lease.ProveDrill$2 -/
def a_lease_ProveDrill_2 : Ann := ⟨[], [], [], [], [], [], [], [], [], []⟩
def f_lease_ProveDrill_2 : Abs.Fn := ⟨1, [],
  .nop⟩

theorem e_lease_ProveDrill_2 : type_of% f_lease_ProveDrill_2.eq_1 := by_rfl f_lease_ProveDrill_2.eq_1
theorem ok_lease_ProveDrill_2 : fnC Tryz.prog a_lease_ProveDrill_2 Tryz.f74 = some f_lease_ProveDrill_2 := by kernel_rfl

/-! 75 (fumarole/lease.work).least -/
def f_lease_work_least_r0 : List Abs.Op := [
  ⟨some 4, none, false, .boxi (.t 0)⟩,
  ⟨some 8, none, false, .mv (.c (.int .i64 0))⟩]

def f_lease_work_least_r1 : List Abs.Op := [
  ⟨some 9, none, false, .mv (.c (.int .i64 1000000000000))⟩]

def f_lease_work_least_r2 : List Abs.Op := [
  ⟨some 11, none, false, .fadr 0 (.t 4)⟩,
  ⟨some 12, none, false, .fadr 3 (.t 11)⟩,
  ⟨some 13, none, false, .ld false 1 (.t 12)⟩,
  ⟨some 14, none, false, .bin .add (.t 13) (.c (.int .i64 1))⟩,
  ⟨some 15, none, false, .mv (.c (.int .i64 0))⟩]

def f_lease_work_least_r3 : List Abs.Op := [
  ⟨some 16, none, false, .bin .lss (.t 15) (.t 14)⟩]

def f_lease_work_least_r4 : List Abs.Op := [
  ⟨some 17, none, false, .mv (.t 15)⟩,
  ⟨some 10, none, false, .mv (.t 17)⟩]

def f_lease_work_least_r5 : List Abs.Op := [
  ⟨some 18, none, false, .fadr 0 (.t 4)⟩,
  ⟨some 19, none, false, .ld true 5 (.t 18)⟩,
  ⟨some 20, none, false, .mv (.t 1)⟩,
  ⟨some 21, none, false, .mv (.t 2)⟩,
  ⟨some 22, none, false, .mv (.t 10)⟩,
  ⟨some 23, none, false, .call false (.c (.fn i_lease_Programme_meets [] [])) [(.t 19), (.t 20), (.t 21), (.t 22)]⟩]

def f_lease_work_least_r6 : List Abs.Op := [
  ⟨some 24, none, true, .mv (.t 9)⟩,
  ⟨some 25, none, true, .fadr 0 (.t 4)⟩,
  ⟨some 26, none, true, .fadr 4 (.t 25)⟩,
  ⟨some 27, none, true, .ld false 1 (.t 26)⟩,
  ⟨some 28, none, true, .mv (.t 1)⟩,
  ⟨some 29, none, true, .idxS 2 (.t 27) (.t 28)⟩,
  ⟨some 30, none, true, .ld true 2 (.t 29)⟩,
  ⟨some 31, none, true, .mv (.t 10)⟩,
  ⟨some 32, none, true, .call false (.c (.fn i_lease_Year_cost [] [])) [(.t 30), (.t 31)]⟩,
  ⟨some 33, none, true, .mv (.t 3)⟩,
  ⟨some 34, none, true, .fadr 0 (.t 4)⟩,
  ⟨some 35, none, true, .ld true 5 (.t 34)⟩,
  ⟨some 36, none, true, .mv (.t 2)⟩,
  ⟨some 37, none, true, .mv (.t 10)⟩,
  ⟨some 38, none, true, .call false (.c (.fn i_lease_Programme_after [] [])) [(.t 35), (.t 36), (.t 37)]⟩,
  ⟨some 39, none, true, .call false (.c (.fn i_lease_ladder_at [] [])) [(.t 33), (.t 38)]⟩,
  ⟨some 40, none, true, .bin .add (.t 32) (.t 39)⟩,
  ⟨some 41, none, false, .mn (.t 24) (.t 40)⟩,
  ⟨some 9, none, false, .mv (.t 41)⟩]

def f_lease_work_least_r7 : List Abs.Op := [
  ⟨some 42, none, false, .bin .add (.t 15) (.c (.int .i64 1))⟩,
  ⟨some 15, none, false, .mv (.t 42)⟩]

def f_lease_work_least_l8 : Abs.Cmd :=
  (.seq (.reg [1, 2, 3, 4, 9, 14, 15, 16] f_lease_work_least_r3) (.seq (.ite (.t 16) .nop (.exit 0)) (.seq (.blk 1 (.seq (.reg [1, 2, 3, 4, 9, 10, 14, 15] f_lease_work_least_r4) (.seq (.reg [1, 2, 3, 4, 9, 10, 14, 15, 23] f_lease_work_least_r5) (.ite (.t 23) (.reg [1, 2, 3, 4, 9, 14, 15] f_lease_work_least_r6) .nop)))) (.reg [1, 2, 3, 4, 9, 14, 15] f_lease_work_least_r7))))

def f_lease_work_least_r9 : List Abs.Op := [
  ⟨some 43, none, false, .mv (.t 9)⟩,
  ⟨some 8, none, false, .mv (.t 43)⟩]

def a_lease_work_least : Ann := ⟨[(8, [8]), (7, [1, 2, 3, 4, 9, 14, 15]), (6, [1, 2, 3, 4, 9, 14, 15]), (5, [1, 2, 3, 4, 9, 10, 14, 15, 23]), (4, [1, 2, 3, 4, 9, 10, 14, 15]), (3, [1, 2, 3, 4, 9, 14, 15, 16]), (2, [1, 2, 3, 4, 9, 14, 15]), (1, [1, 2, 3, 4, 9]), (0, [1, 2, 3, 4])], [(0, [1, 2, 3, 4, 9, 14, 15])], [], [], [], [], [], [], [], []⟩
def f_lease_work_least : Abs.Fn := ⟨4, [.t 8],
  (.seq (.reg [1, 2, 3, 4] f_lease_work_least_r0) (.seq (.reg [1, 2, 3, 4, 9] f_lease_work_least_r1) (.seq (.seq (.reg [1, 2, 3, 4, 9, 14, 15] f_lease_work_least_r2) (.blk 0 (.loop [1, 2, 3, 4, 9, 14, 15] false f_lease_work_least_l8))) (.seq (.reg [8] f_lease_work_least_r9) .ret))))⟩

theorem e_lease_work_least_r0 : type_of% f_lease_work_least_r0.eq_1 := by_rfl f_lease_work_least_r0.eq_1
theorem e_lease_work_least_r1 : type_of% f_lease_work_least_r1.eq_1 := by_rfl f_lease_work_least_r1.eq_1
theorem e_lease_work_least_r2 : type_of% f_lease_work_least_r2.eq_1 := by_rfl f_lease_work_least_r2.eq_1
theorem e_lease_work_least_r3 : type_of% f_lease_work_least_r3.eq_1 := by_rfl f_lease_work_least_r3.eq_1
theorem e_lease_work_least_r4 : type_of% f_lease_work_least_r4.eq_1 := by_rfl f_lease_work_least_r4.eq_1
theorem e_lease_work_least_r5 : type_of% f_lease_work_least_r5.eq_1 := by_rfl f_lease_work_least_r5.eq_1
theorem e_lease_work_least_r6 : type_of% f_lease_work_least_r6.eq_1 := by_rfl f_lease_work_least_r6.eq_1
theorem e_lease_work_least_r7 : type_of% f_lease_work_least_r7.eq_1 := by_rfl f_lease_work_least_r7.eq_1
theorem e_lease_work_least_l8 : type_of% f_lease_work_least_l8.eq_1 := by_rfl f_lease_work_least_l8.eq_1
theorem e_lease_work_least_r9 : type_of% f_lease_work_least_r9.eq_1 := by_rfl f_lease_work_least_r9.eq_1
theorem e_lease_work_least : type_of% f_lease_work_least.eq_1 := by_rfl f_lease_work_least.eq_1
theorem ok_lease_work_least : fnC Tryz.prog a_lease_work_least Tryz.f75 = some f_lease_work_least := by kernel_rfl

/-! 76 fumarole/lease.Outlook$1 -/
def f_lease_Outlook_1_r0 : List Abs.Op := [
  ⟨some 3, none, false, .ld false 1 (.t 1)⟩,
  ⟨some 4, none, false, .mv (.t 0)⟩,
  ⟨some 5, none, false, .bsi 1 1 [(.int .i64 0)] [(0, 1, (.t 4))]⟩,
  ⟨some 6, none, false, .app 1 8 (.t 3) (.t 5)⟩,
  ⟨none, none, false, .st [(0, 1)] 1 (.t 1) (.t 6)⟩]

def a_lease_Outlook_1 : Ann := ⟨[(0, [])], [], [], [1], [], [(4, [(0, 1)])], [], [], [], []⟩
def f_lease_Outlook_1 : Abs.Fn := ⟨2, [],
  (.reg [] f_lease_Outlook_1_r0)⟩

theorem e_lease_Outlook_1_r0 : type_of% f_lease_Outlook_1_r0.eq_1 := by_rfl f_lease_Outlook_1_r0.eq_1
theorem e_lease_Outlook_1 : type_of% f_lease_Outlook_1.eq_1 := by_rfl f_lease_Outlook_1.eq_1
theorem ok_lease_Outlook_1 : fnC Tryz.prog a_lease_Outlook_1 Tryz.f76 = some f_lease_Outlook_1 := by kernel_rfl

/-! 77 fumarole/lease.total -/
def f_lease_total_r0 : List Abs.Op := [
  ⟨some 2, none, false, .mv (.c (.bool false))⟩]

def f_lease_total_r1 : List Abs.Op := [
  ⟨some 3, none, false, .mv (.t 0)⟩,
  ⟨some 4, none, false, .call false (.c (.fn i_lease_within [] [])) [(.t 3), (.c (.int .i64 0)), (.c (.int .i64 1000000000000))]⟩,
  ⟨some 2, none, false, .mv (.t 4)⟩]

def a_lease_total : Ann := ⟨[(1, [2]), (0, [0])], [], [], [], [], [], [], [], [], []⟩
def f_lease_total : Abs.Fn := ⟨1, [.t 2],
  (.seq (.reg [0] f_lease_total_r0) (.seq (.reg [2] f_lease_total_r1) .ret))⟩

theorem e_lease_total_r0 : type_of% f_lease_total_r0.eq_1 := by_rfl f_lease_total_r0.eq_1
theorem e_lease_total_r1 : type_of% f_lease_total_r1.eq_1 := by_rfl f_lease_total_r1.eq_1
theorem e_lease_total : type_of% f_lease_total.eq_1 := by_rfl f_lease_total.eq_1
theorem ok_lease_total : fnC Tryz.prog a_lease_total Tryz.f77 = some f_lease_total := by kernel_rfl

/-! 78 fumarole/lease.all[int] -/
def f_lease_all_int_r0 : List Abs.Op := [
  ⟨some 3, none, false, .boxi (.t 1)⟩,
  ⟨some 4, none, false, .mv (.c (.bool false))⟩]

def f_lease_all_int_r1 : List Abs.Op := [
  ⟨some 5, none, false, .mv (.t 0)⟩,
  ⟨some 6, none, false, .mkf i_lease_all_int_1 [] [(.t 3)]⟩,
  ⟨some 7, none, false, .call false (.c (.fn i_slices_ContainsFunc_int [] [])) [(.t 5), (.t 6)]⟩,
  ⟨some 8, none, false, .un .not (.t 7)⟩,
  ⟨some 4, none, false, .mv (.t 8)⟩]

def a_lease_all_int : Ann := ⟨[(1, [4]), (0, [0, 3])], [], [], [], [], [], [], [], [], []⟩
def f_lease_all_int : Abs.Fn := ⟨2, [.t 4],
  (.seq (.reg [0, 3] f_lease_all_int_r0) (.seq (.reg [4] f_lease_all_int_r1) .ret))⟩

theorem e_lease_all_int_r0 : type_of% f_lease_all_int_r0.eq_1 := by_rfl f_lease_all_int_r0.eq_1
theorem e_lease_all_int_r1 : type_of% f_lease_all_int_r1.eq_1 := by_rfl f_lease_all_int_r1.eq_1
theorem e_lease_all_int : type_of% f_lease_all_int.eq_1 := by_rfl f_lease_all_int.eq_1
theorem ok_lease_all_int : fnC Tryz.prog a_lease_all_int Tryz.f78 = some f_lease_all_int := by kernel_rfl

/-! 79 fumarole/lease.sum -/
def f_lease_sum_r0 : List Abs.Op := [
  ⟨some 2, none, false, .mv (.c (.int .i64 0))⟩]

def f_lease_sum_r1 : List Abs.Op := [
  ⟨some 5, none, false, .mv (.t 0)⟩,
  ⟨some 6, none, false, .lenS (.t 5)⟩,
  ⟨some 7, none, false, .mv (.c (.int .i64 0))⟩]

def f_lease_sum_r2 : List Abs.Op := [
  ⟨some 8, none, false, .bin .lss (.t 7) (.t 6)⟩]

def f_lease_sum_r3 : List Abs.Op := [
  ⟨some 9, none, false, .idxS 1 (.t 5) (.t 7)⟩,
  ⟨some 10, none, false, .ld false 1 (.t 9)⟩,
  ⟨some 4, none, false, .mv (.t 10)⟩]

def f_lease_sum_r4 : List Abs.Op := [
  ⟨some 11, none, false, .mv (.t 2)⟩,
  ⟨some 12, none, false, .mv (.t 4)⟩,
  ⟨some 13, none, false, .bin .add (.t 11) (.t 12)⟩,
  ⟨some 2, none, false, .mv (.t 13)⟩]

def f_lease_sum_r5 : List Abs.Op := [
  ⟨some 14, none, false, .bin .add (.t 7) (.c (.int .i64 1))⟩,
  ⟨some 7, none, false, .mv (.t 14)⟩]

def f_lease_sum_l6 : Abs.Cmd :=
  (.seq (.reg [2, 5, 6, 7, 8] f_lease_sum_r2) (.seq (.ite (.t 8) .nop (.exit 0)) (.seq (.blk 1 (.seq (.reg [2, 4, 5, 6, 7] f_lease_sum_r3) (.reg [2, 5, 6, 7] f_lease_sum_r4))) (.reg [2, 5, 6, 7] f_lease_sum_r5))))

def f_lease_sum_r7 : List Abs.Op := [
  ⟨some 15, none, false, .mv (.t 2)⟩,
  ⟨some 2, none, false, .mv (.t 15)⟩]

def a_lease_sum : Ann := ⟨[(6, [2]), (5, [2, 5, 6, 7]), (4, [2, 5, 6, 7]), (3, [2, 4, 5, 6, 7]), (2, [2, 5, 6, 7, 8]), (1, [2, 5, 6, 7]), (0, [0, 2])], [(0, [2, 5, 6, 7])], [], [], [], [], [], [], [], []⟩
def f_lease_sum : Abs.Fn := ⟨1, [.t 2],
  (.seq (.reg [0, 2] f_lease_sum_r0) (.seq (.seq (.reg [2, 5, 6, 7] f_lease_sum_r1) (.blk 0 (.loop [2, 5, 6, 7] false f_lease_sum_l6))) (.seq (.reg [2] f_lease_sum_r7) .ret)))⟩

theorem e_lease_sum_r0 : type_of% f_lease_sum_r0.eq_1 := by_rfl f_lease_sum_r0.eq_1
theorem e_lease_sum_r1 : type_of% f_lease_sum_r1.eq_1 := by_rfl f_lease_sum_r1.eq_1
theorem e_lease_sum_r2 : type_of% f_lease_sum_r2.eq_1 := by_rfl f_lease_sum_r2.eq_1
theorem e_lease_sum_r3 : type_of% f_lease_sum_r3.eq_1 := by_rfl f_lease_sum_r3.eq_1
theorem e_lease_sum_r4 : type_of% f_lease_sum_r4.eq_1 := by_rfl f_lease_sum_r4.eq_1
theorem e_lease_sum_r5 : type_of% f_lease_sum_r5.eq_1 := by_rfl f_lease_sum_r5.eq_1
theorem e_lease_sum_l6 : type_of% f_lease_sum_l6.eq_1 := by_rfl f_lease_sum_l6.eq_1
theorem e_lease_sum_r7 : type_of% f_lease_sum_r7.eq_1 := by_rfl f_lease_sum_r7.eq_1
theorem e_lease_sum : type_of% f_lease_sum.eq_1 := by_rfl f_lease_sum.eq_1
theorem ok_lease_sum : fnC Tryz.prog a_lease_sum Tryz.f79 = some f_lease_sum := by kernel_rfl

/-! 80 fumarole/lease.part -/
def f_lease_part_r0 : List Abs.Op := [
  ⟨some 6, none, false, .alcv [] [(.int .i64 0), (.int .i64 0)]⟩]

def f_lease_part_r1 : List Abs.Op := [
  ⟨some 7, none, false, .mv (.c (.int .i64 39))⟩]

def f_lease_part_r2 : List Abs.Op := [
  ⟨some 8, none, false, .mv (.t 7)⟩,
  ⟨some 9, none, false, .bin .geq (.t 8) (.c (.int .i64 0))⟩]

def f_lease_part_r3 : List Abs.Op := [
  ⟨some 12, none, false, .fadr 0 (.t 6)⟩,
  ⟨some 13, none, false, .ldv 6 false 1 12⟩,
  ⟨some 14, none, false, .bin .mul (.c (.int .i64 2)) (.t 13)⟩,
  ⟨some 15, none, false, .fadr 1 (.t 6)⟩,
  ⟨some 16, none, false, .ldv 6 false 1 15⟩,
  ⟨some 17, none, false, .bin .mul (.c (.int .i64 2)) (.t 16)⟩,
  ⟨some 18, none, false, .fadr 0 (.t 6)⟩,
  ⟨none, none, false, .stv 6 [] 1 18 (.t 14)⟩,
  ⟨some 19, none, false, .fadr 1 (.t 6)⟩,
  ⟨none, none, false, .stv 6 [] 1 19 (.t 17)⟩]

def f_lease_part_r4 : List Abs.Op := [
  ⟨some 20, none, false, .mv (.t 0)⟩,
  ⟨some 21, none, false, .mv (.t 7)⟩,
  ⟨some 22, none, false, .bin .shr (.t 20) (.t 21)⟩,
  ⟨some 23, none, false, .bin .and (.t 22) (.c (.int .i64 1))⟩,
  ⟨some 24, none, false, .bin .eql (.t 23) (.c (.int .i64 1))⟩]

def f_lease_part_r5 : List Abs.Op := [
  ⟨some 25, none, false, .fadr 1 (.t 6)⟩,
  ⟨some 26, none, false, .ldv 6 false 1 25⟩,
  ⟨some 27, none, false, .mv (.t 1)⟩,
  ⟨some 28, none, false, .bin .add (.t 26) (.t 27)⟩,
  ⟨some 29, none, false, .fadr 1 (.t 6)⟩,
  ⟨none, none, false, .stv 6 [] 1 29 (.t 28)⟩]

def f_lease_part_r6 : List Abs.Op := [
  ⟨some 30, none, true, .fadr 0 (.t 6)⟩,
  ⟨some 31, none, true, .ldv 6 false 1 30⟩,
  ⟨some 32, none, true, .fadr 1 (.t 6)⟩,
  ⟨some 33, none, true, .ldv 6 false 1 32⟩,
  ⟨some 34, none, true, .mv (.t 2)⟩,
  ⟨some 35, none, true, .bin .quo (.t 33) (.t 34)⟩,
  ⟨some 36, none, false, .bin .add (.t 31) (.t 35)⟩,
  ⟨some 37, none, false, .fadr 0 (.t 6)⟩,
  ⟨none, none, false, .stv 6 [] 1 37 (.t 36)⟩]

def f_lease_part_r7 : List Abs.Op := [
  ⟨some 38, none, false, .fadr 1 (.t 6)⟩,
  ⟨some 39, none, false, .ldv 6 false 1 38⟩,
  ⟨some 40, none, false, .mv (.t 2)⟩,
  ⟨some 41, none, false, .bin .rem (.t 39) (.t 40)⟩,
  ⟨some 42, none, false, .fadr 1 (.t 6)⟩,
  ⟨none, none, false, .stv 6 [] 1 42 (.t 41)⟩]

def f_lease_part_r8 : List Abs.Op := [
  ⟨some 10, none, false, .mv (.t 7)⟩,
  ⟨some 11, none, false, .bin .sub (.t 10) (.c (.int .i64 1))⟩,
  ⟨some 7, none, false, .mv (.t 11)⟩]

def f_lease_part_l9 : Abs.Cmd :=
  (.seq (.seq (.reg [0, 1, 2, 6, 7, 9] f_lease_part_r2) (.ite (.t 9) .nop (.exit 0))) (.seq (.blk 1 (.seq (.reg [0, 1, 2, 6, 7] f_lease_part_r3) (.seq (.seq (.reg [0, 1, 2, 6, 7, 24] f_lease_part_r4) (.ite (.t 24) (.reg [0, 1, 2, 6, 7] f_lease_part_r5) .nop)) (.seq (.reg [0, 1, 2, 6, 7] f_lease_part_r6) (.reg [0, 1, 2, 6, 7] f_lease_part_r7))))) (.reg [0, 1, 2, 6, 7] f_lease_part_r8)))

def f_lease_part_r10 : List Abs.Op := [
  ⟨some 43, none, false, .ldv 6 true 2 6⟩,
  ⟨none, none, false, .stv 6 [] 2 6 (.t 43)⟩]

def a_lease_part : Ann := ⟨[(9, [6]), (3, [0, 1, 2, 6, 7]), (8, [0, 1, 2, 6, 7]), (7, [0, 1, 2, 6, 7]), (6, [0, 1, 2, 6, 7]), (5, [0, 1, 2, 6, 7, 24]), (4, [0, 1, 2, 6, 7]), (2, [0, 1, 2, 6, 7, 9]), (1, [0, 1, 2, 6, 7]), (0, [0, 1, 2, 6])], [(0, [0, 1, 2, 6, 7])], [], [6], [6], [], [], [], [], []⟩
def f_lease_part : Abs.Fn := ⟨3, [.v 6 true 2],
  (.seq (.reg [0, 1, 2, 6] f_lease_part_r0) (.seq (.seq (.reg [0, 1, 2, 6, 7] f_lease_part_r1) (.blk 0 (.loop [0, 1, 2, 6, 7] false f_lease_part_l9))) (.seq (.reg [6] f_lease_part_r10) .ret)))⟩

theorem e_lease_part_r0 : type_of% f_lease_part_r0.eq_1 := by_rfl f_lease_part_r0.eq_1
theorem e_lease_part_r1 : type_of% f_lease_part_r1.eq_1 := by_rfl f_lease_part_r1.eq_1
theorem e_lease_part_r2 : type_of% f_lease_part_r2.eq_1 := by_rfl f_lease_part_r2.eq_1
theorem e_lease_part_r3 : type_of% f_lease_part_r3.eq_1 := by_rfl f_lease_part_r3.eq_1
theorem e_lease_part_r4 : type_of% f_lease_part_r4.eq_1 := by_rfl f_lease_part_r4.eq_1
theorem e_lease_part_r5 : type_of% f_lease_part_r5.eq_1 := by_rfl f_lease_part_r5.eq_1
theorem e_lease_part_r6 : type_of% f_lease_part_r6.eq_1 := by_rfl f_lease_part_r6.eq_1
theorem e_lease_part_r7 : type_of% f_lease_part_r7.eq_1 := by_rfl f_lease_part_r7.eq_1
theorem e_lease_part_r8 : type_of% f_lease_part_r8.eq_1 := by_rfl f_lease_part_r8.eq_1
theorem e_lease_part_l9 : type_of% f_lease_part_l9.eq_1 := by_rfl f_lease_part_l9.eq_1
theorem e_lease_part_r10 : type_of% f_lease_part_r10.eq_1 := by_rfl f_lease_part_r10.eq_1
theorem e_lease_part : type_of% f_lease_part.eq_1 := by_rfl f_lease_part.eq_1
theorem ok_lease_part : fnC Tryz.prog a_lease_part Tryz.f80 = some f_lease_part := by kernel_rfl

/-! 81 fumarole/lease.ranked[fumarole/lease.portion] -/
def f_lease_ranked_lease_portion_r0 : List Abs.Op := [
  ⟨some 2, none, false, .boxi (.t 0)⟩,
  ⟨some 3, none, false, .boxi (.t 1)⟩,
  ⟨some 4, none, false, .mv (.c .nils)⟩]

def f_lease_ranked_lease_portion_r1 : List Abs.Op := [
  ⟨some 5, none, false, .nilb 1⟩]

def f_lease_ranked_lease_portion_r2 : List Abs.Op := [
  ⟨some 7, none, false, .ld false 1 (.t 2)⟩,
  ⟨some 8, none, false, .lenS (.t 7)⟩,
  ⟨some 9, none, false, .mv (.c (.int .i64 0))⟩]

def f_lease_ranked_lease_portion_r3 : List Abs.Op := [
  ⟨some 10, none, false, .bin .lss (.t 9) (.t 8)⟩]

def f_lease_ranked_lease_portion_r4 : List Abs.Op := [
  ⟨some 11, none, false, .mv (.t 9)⟩,
  ⟨some 6, none, false, .mv (.t 11)⟩]

def f_lease_ranked_lease_portion_r5 : List Abs.Op := [
  ⟨some 12, none, false, .mv (.t 5)⟩,
  ⟨some 13, none, false, .mv (.t 6)⟩,
  ⟨some 14, none, false, .bsi 1 1 [(.int .i64 0)] [(0, 1, (.t 13))]⟩,
  ⟨some 15, none, false, .app 1 8 (.t 12) (.t 14)⟩,
  ⟨some 5, none, false, .mv (.t 15)⟩]

def f_lease_ranked_lease_portion_r6 : List Abs.Op := [
  ⟨some 16, none, false, .bin .add (.t 9) (.c (.int .i64 1))⟩,
  ⟨some 9, none, false, .mv (.t 16)⟩]

def f_lease_ranked_lease_portion_l7 : Abs.Cmd :=
  (.seq (.reg [2, 3, 5, 8, 9, 10] f_lease_ranked_lease_portion_r3) (.seq (.ite (.t 10) .nop (.exit 0)) (.seq (.blk 1 (.seq (.reg [2, 3, 5, 6, 8, 9] f_lease_ranked_lease_portion_r4) (.reg [2, 3, 5, 8, 9] f_lease_ranked_lease_portion_r5))) (.reg [2, 3, 5, 8, 9] f_lease_ranked_lease_portion_r6))))

def f_lease_ranked_lease_portion_r8 : List Abs.Op := [
  ⟨some 17, none, false, .mv (.t 5)⟩,
  ⟨some 18, none, false, .mkf i_lease_ranked_lease_portion_1 [] [(.t 3), (.t 2)]⟩,
  ⟨some 19, none, false, .call false (.c (.fn i_slices_SortStableFunc_int [] [])) [(.t 17), (.t 18)]⟩]

def f_lease_ranked_lease_portion_r9 : List Abs.Op := [
  ⟨some 20, none, false, .mv (.t 5)⟩,
  ⟨some 4, none, false, .mv (.t 20)⟩]

def a_lease_ranked_lease_portion : Ann := ⟨[(8, [4]), (7, [5]), (6, [2, 3, 5, 8, 9]), (5, [2, 3, 5, 8, 9]), (4, [2, 3, 5, 6, 8, 9]), (3, [2, 3, 5, 8, 9, 10]), (2, [2, 3, 5, 8, 9]), (1, [2, 3, 5]), (0, [2, 3])], [(0, [2, 3, 5, 8, 9])], [], [5], [], [], [], [], [], []⟩
def f_lease_ranked_lease_portion : Abs.Fn := ⟨2, [.t 4],
  (.seq (.reg [2, 3] f_lease_ranked_lease_portion_r0) (.seq (.reg [2, 3, 5] f_lease_ranked_lease_portion_r1) (.seq (.seq (.reg [2, 3, 5, 8, 9] f_lease_ranked_lease_portion_r2) (.blk 0 (.loop [2, 3, 5, 8, 9] false f_lease_ranked_lease_portion_l7))) (.seq (.reg [5] f_lease_ranked_lease_portion_r8) (.seq (.reg [4] f_lease_ranked_lease_portion_r9) .ret)))))⟩

theorem e_lease_ranked_lease_portion_r0 : type_of% f_lease_ranked_lease_portion_r0.eq_1 := by_rfl f_lease_ranked_lease_portion_r0.eq_1
theorem e_lease_ranked_lease_portion_r1 : type_of% f_lease_ranked_lease_portion_r1.eq_1 := by_rfl f_lease_ranked_lease_portion_r1.eq_1
theorem e_lease_ranked_lease_portion_r2 : type_of% f_lease_ranked_lease_portion_r2.eq_1 := by_rfl f_lease_ranked_lease_portion_r2.eq_1
theorem e_lease_ranked_lease_portion_r3 : type_of% f_lease_ranked_lease_portion_r3.eq_1 := by_rfl f_lease_ranked_lease_portion_r3.eq_1
theorem e_lease_ranked_lease_portion_r4 : type_of% f_lease_ranked_lease_portion_r4.eq_1 := by_rfl f_lease_ranked_lease_portion_r4.eq_1
theorem e_lease_ranked_lease_portion_r5 : type_of% f_lease_ranked_lease_portion_r5.eq_1 := by_rfl f_lease_ranked_lease_portion_r5.eq_1
theorem e_lease_ranked_lease_portion_r6 : type_of% f_lease_ranked_lease_portion_r6.eq_1 := by_rfl f_lease_ranked_lease_portion_r6.eq_1
theorem e_lease_ranked_lease_portion_l7 : type_of% f_lease_ranked_lease_portion_l7.eq_1 := by_rfl f_lease_ranked_lease_portion_l7.eq_1
theorem e_lease_ranked_lease_portion_r8 : type_of% f_lease_ranked_lease_portion_r8.eq_1 := by_rfl f_lease_ranked_lease_portion_r8.eq_1
theorem e_lease_ranked_lease_portion_r9 : type_of% f_lease_ranked_lease_portion_r9.eq_1 := by_rfl f_lease_ranked_lease_portion_r9.eq_1
theorem e_lease_ranked_lease_portion : type_of% f_lease_ranked_lease_portion.eq_1 := by_rfl f_lease_ranked_lease_portion.eq_1
theorem ok_lease_ranked_lease_portion : fnC Tryz.prog a_lease_ranked_lease_portion Tryz.f81 = some f_lease_ranked_lease_portion := by kernel_rfl

/-! 82 fumarole/lease.Split$1 -/
def f_lease_Split_1_r0 : List Abs.Op := [
  ⟨some 1, none, false, .boxi (.t 0)⟩,
  ⟨some 2, none, false, .mv (.c (.int .i64 0))⟩]

def f_lease_Split_1_r1 : List Abs.Op := [
  ⟨some 3, none, false, .fadr 1 (.t 1)⟩,
  ⟨some 4, none, false, .ld false 1 (.t 3)⟩,
  ⟨some 2, none, false, .mv (.t 4)⟩]

def a_lease_Split_1 : Ann := ⟨[(1, [2]), (0, [1])], [], [], [], [], [], [], [], [], []⟩
def f_lease_Split_1 : Abs.Fn := ⟨1, [.t 2],
  (.seq (.reg [1] f_lease_Split_1_r0) (.seq (.reg [2] f_lease_Split_1_r1) .ret))⟩

theorem e_lease_Split_1_r0 : type_of% f_lease_Split_1_r0.eq_1 := by_rfl f_lease_Split_1_r0.eq_1
theorem e_lease_Split_1_r1 : type_of% f_lease_Split_1_r1.eq_1 := by_rfl f_lease_Split_1_r1.eq_1
theorem e_lease_Split_1 : type_of% f_lease_Split_1.eq_1 := by_rfl f_lease_Split_1.eq_1
theorem ok_lease_Split_1 : fnC Tryz.prog a_lease_Split_1 Tryz.f82 = some f_lease_Split_1 := by kernel_rfl

/-! 84 fumarole/lease.all[fumarole/lease.Year] -/
def f_lease_all_lease_Year_r0 : List Abs.Op := [
  ⟨some 3, none, false, .boxi (.t 1)⟩,
  ⟨some 4, none, false, .mv (.c (.bool false))⟩]

def f_lease_all_lease_Year_r1 : List Abs.Op := [
  ⟨some 5, none, false, .mv (.t 0)⟩,
  ⟨some 6, none, false, .mkf i_lease_all_lease_Year_1 [] [(.t 3)]⟩,
  ⟨some 7, none, false, .call false (.c (.fn i_slices_ContainsFunc_lease_Year [] [])) [(.t 5), (.t 6)]⟩,
  ⟨some 8, none, false, .un .not (.t 7)⟩,
  ⟨some 4, none, false, .mv (.t 8)⟩]

def a_lease_all_lease_Year : Ann := ⟨[(1, [4]), (0, [0, 3])], [], [], [], [], [], [], [], [], []⟩
def f_lease_all_lease_Year : Abs.Fn := ⟨2, [.t 4],
  (.seq (.reg [0, 3] f_lease_all_lease_Year_r0) (.seq (.reg [4] f_lease_all_lease_Year_r1) .ret))⟩

theorem e_lease_all_lease_Year_r0 : type_of% f_lease_all_lease_Year_r0.eq_1 := by_rfl f_lease_all_lease_Year_r0.eq_1
theorem e_lease_all_lease_Year_r1 : type_of% f_lease_all_lease_Year_r1.eq_1 := by_rfl f_lease_all_lease_Year_r1.eq_1
theorem e_lease_all_lease_Year : type_of% f_lease_all_lease_Year.eq_1 := by_rfl f_lease_all_lease_Year.eq_1
theorem ok_lease_all_lease_Year : fnC Tryz.prog a_lease_all_lease_Year Tryz.f84 = some f_lease_all_lease_Year := by kernel_rfl

/-! 85 (fumarole/lease.Programme).valid$1 -/
def f_lease_Programme_valid_1_r0 : List Abs.Op := [
  ⟨some 1, none, false, .boxi (.t 0)⟩,
  ⟨some 2, none, false, .mv (.c (.bool false))⟩]

def f_lease_Programme_valid_1_r1 : List Abs.Op := [
  ⟨some 3, none, false, .fadr 0 (.t 1)⟩,
  ⟨some 4, none, false, .ld false 1 (.t 3)⟩,
  ⟨some 5, none, false, .call false (.c (.fn i_lease_within [] [])) [(.t 4), (.c (.int .i64 0)), (.c (.int .i64 30000000))]⟩,
  ⟨some 6, none, false, .mv (.t 5)⟩,
  ⟨some 7, some (6, true), false, .fadr 1 (.t 1)⟩,
  ⟨some 8, some (6, true), false, .ld false 1 (.t 7)⟩,
  ⟨some 9, some (6, true), false, .call false (.c (.fn i_lease_within [] [])) [(.t 8), (.c (.int .i64 0)), (.c (.int .i64 1000000))]⟩,
  ⟨some 10, none, false, .pick (.t 6) (.t 9) (.c (.bool false))⟩,
  ⟨some 2, none, false, .mv (.t 10)⟩]

def a_lease_Programme_valid_1 : Ann := ⟨[(1, [2]), (0, [1])], [], [], [], [], [], [], [], [], []⟩
def f_lease_Programme_valid_1 : Abs.Fn := ⟨1, [.t 2],
  (.seq (.reg [1] f_lease_Programme_valid_1_r0) (.seq (.reg [2] f_lease_Programme_valid_1_r1) .ret))⟩

theorem e_lease_Programme_valid_1_r0 : type_of% f_lease_Programme_valid_1_r0.eq_1 := by_rfl f_lease_Programme_valid_1_r0.eq_1
theorem e_lease_Programme_valid_1_r1 : type_of% f_lease_Programme_valid_1_r1.eq_1 := by_rfl f_lease_Programme_valid_1_r1.eq_1
theorem e_lease_Programme_valid_1 : type_of% f_lease_Programme_valid_1.eq_1 := by_rfl f_lease_Programme_valid_1.eq_1
theorem ok_lease_Programme_valid_1 : fnC Tryz.prog a_lease_Programme_valid_1 Tryz.f85 = some f_lease_Programme_valid_1 := by kernel_rfl

/-! 86 (fumarole/lease.work).ladders -/
def f_lease_work_ladders_r0 : List Abs.Op := [
  ⟨some 1, none, false, .boxi (.t 0)⟩,
  ⟨some 2, none, false, .mv (.c .nilf)⟩]

def f_lease_work_ladders_r1 : List Abs.Op := [
  ⟨some 3, none, false, .mkf i_lease_work_ladders_1 [] [(.t 1)]⟩,
  ⟨some 2, none, false, .mv (.t 3)⟩]

def a_lease_work_ladders : Ann := ⟨[(1, [2]), (0, [1])], [], [], [], [], [], [], [], [], []⟩
def f_lease_work_ladders : Abs.Fn := ⟨1, [.t 2],
  (.seq (.reg [1] f_lease_work_ladders_r0) (.seq (.reg [2] f_lease_work_ladders_r1) .ret))⟩

theorem e_lease_work_ladders_r0 : type_of% f_lease_work_ladders_r0.eq_1 := by_rfl f_lease_work_ladders_r0.eq_1
theorem e_lease_work_ladders_r1 : type_of% f_lease_work_ladders_r1.eq_1 := by_rfl f_lease_work_ladders_r1.eq_1
theorem e_lease_work_ladders : type_of% f_lease_work_ladders.eq_1 := by_rfl f_lease_work_ladders.eq_1
theorem ok_lease_work_ladders : fnC Tryz.prog a_lease_work_ladders Tryz.f86 = some f_lease_work_ladders := by kernel_rfl

/-! 87 slices.BinarySearchFunc[fumarole/lease.ladder,fumarole/lease.Rung,int] -/
def f_slices_BinarySearchFunc_lease_ladder_lease_Rung_int_r0 : List Abs.Op := [
  ⟨some 6, none, false, .mv (.c (.int .i64 0))⟩,
  ⟨some 7, none, false, .mv (.c (.bool false))⟩]

def f_slices_BinarySearchFunc_lease_ladder_lease_Rung_int_r1 : List Abs.Op := [
  ⟨some 12, none, false, .mv (.t 0)⟩,
  ⟨some 13, none, false, .lenS (.t 12)⟩,
  ⟨some 8, none, false, .mv (.t 13)⟩]

def f_slices_BinarySearchFunc_lease_ladder_lease_Rung_int_r2 : List Abs.Op := [
  ⟨some 14, none, false, .mv (.t 8)⟩,
  ⟨some 9, none, false, .mv (.c (.int .i64 0))⟩,
  ⟨some 10, none, false, .mv (.t 14)⟩]

def f_slices_BinarySearchFunc_lease_ladder_lease_Rung_int_r3 : List Abs.Op := [
  ⟨some 15, none, false, .mv (.t 9)⟩,
  ⟨some 16, none, false, .mv (.t 10)⟩,
  ⟨some 17, none, false, .bin .lss (.t 15) (.t 16)⟩]

def f_slices_BinarySearchFunc_lease_ladder_lease_Rung_int_r4 : List Abs.Op := [
  ⟨some 18, none, false, .mv (.t 9)⟩,
  ⟨some 19, none, false, .mv (.t 10)⟩,
  ⟨some 20, none, false, .bin .add (.t 18) (.t 19)⟩,
  ⟨some 21, none, false, .cvt .u64 (.t 20)⟩,
  ⟨some 22, none, false, .bin .shr (.t 21) (.c (.int .u64 1))⟩,
  ⟨some 23, none, false, .cvt .i64 (.t 22)⟩,
  ⟨some 11, none, false, .mv (.t 23)⟩]

def f_slices_BinarySearchFunc_lease_ladder_lease_Rung_int_r5 : List Abs.Op := [
  ⟨some 24, none, false, .mv (.t 2)⟩,
  ⟨some 25, none, false, .mv (.t 0)⟩,
  ⟨some 26, none, false, .mv (.t 11)⟩,
  ⟨some 27, none, false, .idxS 2 (.t 25) (.t 26)⟩,
  ⟨some 28, none, false, .ld true 2 (.t 27)⟩,
  ⟨some 29, none, false, .mv (.t 1)⟩,
  ⟨some 30, none, false, .call false (.t 24) [(.t 28), (.t 29)]⟩,
  ⟨some 31, none, false, .bin .lss (.t 30) (.c (.int .i64 0))⟩]

def f_slices_BinarySearchFunc_lease_ladder_lease_Rung_int_r6 : List Abs.Op := [
  ⟨some 32, none, false, .mv (.t 11)⟩,
  ⟨some 33, none, false, .bin .add (.t 32) (.c (.int .i64 1))⟩,
  ⟨some 9, none, false, .mv (.t 33)⟩]

def f_slices_BinarySearchFunc_lease_ladder_lease_Rung_int_r7 : List Abs.Op := [
  ⟨some 34, none, false, .mv (.t 11)⟩,
  ⟨some 10, none, false, .mv (.t 34)⟩]

def f_slices_BinarySearchFunc_lease_ladder_lease_Rung_int_l8 : Abs.Cmd :=
  (.seq (.seq (.reg [0, 1, 2, 8, 9, 10, 17] f_slices_BinarySearchFunc_lease_ladder_lease_Rung_int_r3) (.ite (.t 17) .nop (.exit 0))) (.blk 1 (.seq (.reg [0, 1, 2, 8, 9, 10, 11] f_slices_BinarySearchFunc_lease_ladder_lease_Rung_int_r4) (.seq (.reg [0, 1, 2, 8, 9, 10, 11, 31] f_slices_BinarySearchFunc_lease_ladder_lease_Rung_int_r5) (.ite (.t 31) (.reg [0, 1, 2, 8, 9, 10] f_slices_BinarySearchFunc_lease_ladder_lease_Rung_int_r6) (.reg [0, 1, 2, 8, 9, 10] f_slices_BinarySearchFunc_lease_ladder_lease_Rung_int_r7))))))

def f_slices_BinarySearchFunc_lease_ladder_lease_Rung_int_r9 : List Abs.Op := [
  ⟨some 35, none, false, .mv (.t 9)⟩,
  ⟨some 36, none, false, .mv (.t 9)⟩,
  ⟨some 37, none, false, .mv (.t 8)⟩,
  ⟨some 38, none, false, .bin .lss (.t 36) (.t 37)⟩,
  ⟨some 39, none, false, .mv (.t 38)⟩,
  ⟨some 40, some (39, true), false, .mv (.t 2)⟩,
  ⟨some 41, some (39, true), false, .mv (.t 0)⟩,
  ⟨some 42, some (39, true), false, .mv (.t 9)⟩,
  ⟨some 43, some (39, true), false, .idxS 2 (.t 41) (.t 42)⟩,
  ⟨some 44, some (39, true), false, .ld true 2 (.t 43)⟩,
  ⟨some 45, some (39, true), false, .mv (.t 1)⟩,
  ⟨some 46, some (39, true), false, .call false (.t 40) [(.t 44), (.t 45)]⟩,
  ⟨some 47, some (39, true), false, .bin .eql (.t 46) (.c (.int .i64 0))⟩,
  ⟨some 48, none, false, .pick (.t 39) (.t 47) (.c (.bool false))⟩,
  ⟨some 6, none, false, .mv (.t 35)⟩,
  ⟨some 7, none, false, .mv (.t 48)⟩]

def a_slices_BinarySearchFunc_lease_ladder_lease_Rung_int : Ann := ⟨[(8, [6, 7]), (6, [0, 1, 2, 8, 9, 10]), (7, [0, 1, 2, 8, 9, 10]), (5, [0, 1, 2, 8, 9, 10, 11, 31]), (4, [0, 1, 2, 8, 9, 10, 11]), (3, [0, 1, 2, 8, 9, 10, 17]), (2, [0, 1, 2, 8, 9, 10]), (1, [0, 1, 2, 8]), (0, [0, 1, 2])], [(0, [0, 1, 2, 8, 9, 10])], [], [], [], [], [], [], [], []⟩
def f_slices_BinarySearchFunc_lease_ladder_lease_Rung_int : Abs.Fn := ⟨3, [.t 6, .t 7],
  (.seq (.reg [0, 1, 2] f_slices_BinarySearchFunc_lease_ladder_lease_Rung_int_r0) (.seq (.reg [0, 1, 2, 8] f_slices_BinarySearchFunc_lease_ladder_lease_Rung_int_r1) (.seq (.reg [0, 1, 2, 8, 9, 10] f_slices_BinarySearchFunc_lease_ladder_lease_Rung_int_r2) (.seq (.blk 0 (.loop [0, 1, 2, 8, 9, 10] false f_slices_BinarySearchFunc_lease_ladder_lease_Rung_int_l8)) (.seq (.reg [6, 7] f_slices_BinarySearchFunc_lease_ladder_lease_Rung_int_r9) .ret)))))⟩

theorem e_slices_BinarySearchFunc_lease_ladder_lease_Rung_int_r0 : type_of% f_slices_BinarySearchFunc_lease_ladder_lease_Rung_int_r0.eq_1 := by_rfl f_slices_BinarySearchFunc_lease_ladder_lease_Rung_int_r0.eq_1
theorem e_slices_BinarySearchFunc_lease_ladder_lease_Rung_int_r1 : type_of% f_slices_BinarySearchFunc_lease_ladder_lease_Rung_int_r1.eq_1 := by_rfl f_slices_BinarySearchFunc_lease_ladder_lease_Rung_int_r1.eq_1
theorem e_slices_BinarySearchFunc_lease_ladder_lease_Rung_int_r2 : type_of% f_slices_BinarySearchFunc_lease_ladder_lease_Rung_int_r2.eq_1 := by_rfl f_slices_BinarySearchFunc_lease_ladder_lease_Rung_int_r2.eq_1
theorem e_slices_BinarySearchFunc_lease_ladder_lease_Rung_int_r3 : type_of% f_slices_BinarySearchFunc_lease_ladder_lease_Rung_int_r3.eq_1 := by_rfl f_slices_BinarySearchFunc_lease_ladder_lease_Rung_int_r3.eq_1
theorem e_slices_BinarySearchFunc_lease_ladder_lease_Rung_int_r4 : type_of% f_slices_BinarySearchFunc_lease_ladder_lease_Rung_int_r4.eq_1 := by_rfl f_slices_BinarySearchFunc_lease_ladder_lease_Rung_int_r4.eq_1
theorem e_slices_BinarySearchFunc_lease_ladder_lease_Rung_int_r5 : type_of% f_slices_BinarySearchFunc_lease_ladder_lease_Rung_int_r5.eq_1 := by_rfl f_slices_BinarySearchFunc_lease_ladder_lease_Rung_int_r5.eq_1
theorem e_slices_BinarySearchFunc_lease_ladder_lease_Rung_int_r6 : type_of% f_slices_BinarySearchFunc_lease_ladder_lease_Rung_int_r6.eq_1 := by_rfl f_slices_BinarySearchFunc_lease_ladder_lease_Rung_int_r6.eq_1
theorem e_slices_BinarySearchFunc_lease_ladder_lease_Rung_int_r7 : type_of% f_slices_BinarySearchFunc_lease_ladder_lease_Rung_int_r7.eq_1 := by_rfl f_slices_BinarySearchFunc_lease_ladder_lease_Rung_int_r7.eq_1
theorem e_slices_BinarySearchFunc_lease_ladder_lease_Rung_int_l8 : type_of% f_slices_BinarySearchFunc_lease_ladder_lease_Rung_int_l8.eq_1 := by_rfl f_slices_BinarySearchFunc_lease_ladder_lease_Rung_int_l8.eq_1
theorem e_slices_BinarySearchFunc_lease_ladder_lease_Rung_int_r9 : type_of% f_slices_BinarySearchFunc_lease_ladder_lease_Rung_int_r9.eq_1 := by_rfl f_slices_BinarySearchFunc_lease_ladder_lease_Rung_int_r9.eq_1
theorem e_slices_BinarySearchFunc_lease_ladder_lease_Rung_int : type_of% f_slices_BinarySearchFunc_lease_ladder_lease_Rung_int.eq_1 := by_rfl f_slices_BinarySearchFunc_lease_ladder_lease_Rung_int.eq_1
theorem ok_slices_BinarySearchFunc_lease_ladder_lease_Rung_int : fnC Tryz.prog a_slices_BinarySearchFunc_lease_ladder_lease_Rung_int Tryz.f87 = some f_slices_BinarySearchFunc_lease_ladder_lease_Rung_int := by kernel_rfl

/-! 88 (fumarole/lease.ladder).at$1 -/
def f_lease_ladder_at_1_r0 : List Abs.Op := [
  ⟨some 2, none, false, .boxi (.t 0)⟩,
  ⟨some 4, none, false, .mv (.c (.int .i64 0))⟩]

def f_lease_ladder_at_1_r1 : List Abs.Op := [
  ⟨some 5, none, false, .fadr 0 (.t 2)⟩,
  ⟨some 6, none, false, .ld false 1 (.t 5)⟩,
  ⟨some 7, none, false, .mv (.t 1)⟩,
  ⟨some 8, none, false, .bin .sub (.t 6) (.t 7)⟩,
  ⟨some 4, none, false, .mv (.t 8)⟩]

def a_lease_ladder_at_1 : Ann := ⟨[(1, [4]), (0, [1, 2])], [], [], [], [], [], [], [], [], []⟩
def f_lease_ladder_at_1 : Abs.Fn := ⟨2, [.t 4],
  (.seq (.reg [1, 2] f_lease_ladder_at_1_r0) (.seq (.reg [4] f_lease_ladder_at_1_r1) .ret))⟩

theorem e_lease_ladder_at_1_r0 : type_of% f_lease_ladder_at_1_r0.eq_1 := by_rfl f_lease_ladder_at_1_r0.eq_1
theorem e_lease_ladder_at_1_r1 : type_of% f_lease_ladder_at_1_r1.eq_1 := by_rfl f_lease_ladder_at_1_r1.eq_1
theorem e_lease_ladder_at_1 : type_of% f_lease_ladder_at_1.eq_1 := by_rfl f_lease_ladder_at_1.eq_1
theorem ok_lease_ladder_at_1 : fnC Tryz.prog a_lease_ladder_at_1 Tryz.f88 = some f_lease_ladder_at_1 := by kernel_rfl

/-! 89 fumarole/lease.taking$1 -/
def f_lease_taking_1_r0 : List Abs.Op := [
  ⟨some 2, none, false, .mv (.c (.bool false))⟩]

def f_lease_taking_1_r1 : List Abs.Op := [
  ⟨some 3, none, false, .mv (.t 0)⟩,
  ⟨some 4, none, false, .call false (.c (.fn i_lease_within [] [])) [(.t 3), (.c (.int .i64 0)), (.c (.int .i64 1000000))]⟩,
  ⟨some 2, none, false, .mv (.t 4)⟩]

def a_lease_taking_1 : Ann := ⟨[(1, [2]), (0, [0])], [], [], [], [], [], [], [], [], []⟩
def f_lease_taking_1 : Abs.Fn := ⟨1, [.t 2],
  (.seq (.reg [0] f_lease_taking_1_r0) (.seq (.reg [2] f_lease_taking_1_r1) .ret))⟩

theorem e_lease_taking_1_r0 : type_of% f_lease_taking_1_r0.eq_1 := by_rfl f_lease_taking_1_r0.eq_1
theorem e_lease_taking_1_r1 : type_of% f_lease_taking_1_r1.eq_1 := by_rfl f_lease_taking_1_r1.eq_1
theorem e_lease_taking_1 : type_of% f_lease_taking_1.eq_1 := by_rfl f_lease_taking_1.eq_1
theorem ok_lease_taking_1 : fnC Tryz.prog a_lease_taking_1 Tryz.f89 = some f_lease_taking_1 := by kernel_rfl

/-! 90 fumarole/lease.all[fumarole/lease.Spring] -/
def f_lease_all_lease_Spring_r0 : List Abs.Op := [
  ⟨some 3, none, false, .boxi (.t 1)⟩,
  ⟨some 4, none, false, .mv (.c (.bool false))⟩]

def f_lease_all_lease_Spring_r1 : List Abs.Op := [
  ⟨some 5, none, false, .mv (.t 0)⟩,
  ⟨some 6, none, false, .mkf i_lease_all_lease_Spring_1 [] [(.t 3)]⟩,
  ⟨some 7, none, false, .call false (.c (.fn i_slices_ContainsFunc_lease_Spring [] [])) [(.t 5), (.t 6)]⟩,
  ⟨some 8, none, false, .un .not (.t 7)⟩,
  ⟨some 4, none, false, .mv (.t 8)⟩]

def a_lease_all_lease_Spring : Ann := ⟨[(1, [4]), (0, [0, 3])], [], [], [], [], [], [], [], [], []⟩
def f_lease_all_lease_Spring : Abs.Fn := ⟨2, [.t 4],
  (.seq (.reg [0, 3] f_lease_all_lease_Spring_r0) (.seq (.reg [4] f_lease_all_lease_Spring_r1) .ret))⟩

theorem e_lease_all_lease_Spring_r0 : type_of% f_lease_all_lease_Spring_r0.eq_1 := by_rfl f_lease_all_lease_Spring_r0.eq_1
theorem e_lease_all_lease_Spring_r1 : type_of% f_lease_all_lease_Spring_r1.eq_1 := by_rfl f_lease_all_lease_Spring_r1.eq_1
theorem e_lease_all_lease_Spring : type_of% f_lease_all_lease_Spring.eq_1 := by_rfl f_lease_all_lease_Spring.eq_1
theorem ok_lease_all_lease_Spring : fnC Tryz.prog a_lease_all_lease_Spring Tryz.f90 = some f_lease_all_lease_Spring := by kernel_rfl

/-! 91 fumarole/lease.springs$1 -/
def f_lease_springs_1_r0 : List Abs.Op := [
  ⟨some 2, none, false, .boxi (.t 0)⟩,
  ⟨some 3, none, false, .mv (.c (.bool false))⟩]

def f_lease_springs_1_r1 : List Abs.Op := [
  ⟨some 4, none, true, .fadr 0 (.t 2)⟩,
  ⟨some 5, none, true, .ld false 1 (.t 4)⟩,
  ⟨some 6, none, true, .call false (.c (.fn i_lease_within [] [])) [(.t 5), (.c (.int .i64 0)), (.c (.int .i64 1000000000))]⟩,
  ⟨some 7, none, true, .mv (.t 6)⟩,
  ⟨some 8, some (7, true), true, .fadr 1 (.t 2)⟩,
  ⟨some 9, some (7, true), true, .ld false 1 (.t 8)⟩,
  ⟨some 10, some (7, true), true, .call false (.c (.fn i_lease_within [] [])) [(.t 9), (.c (.int .i64 0)), (.c (.int .i64 1000000000))]⟩,
  ⟨some 11, none, true, .pick (.t 7) (.t 10) (.c (.bool false))⟩,
  ⟨some 12, none, true, .mv (.t 11)⟩,
  ⟨some 13, some (12, true), true, .fadr 2 (.t 2)⟩,
  ⟨some 14, some (12, true), true, .ld false 1 (.t 13)⟩,
  ⟨some 15, some (12, true), true, .lenS (.t 14)⟩,
  ⟨some 16, some (12, true), true, .ld false 1 (.t 1)⟩,
  ⟨some 17, some (12, true), true, .idxS 3 (.t 16) (.c (.int .i64 0))⟩,
  ⟨some 18, some (12, true), true, .fadr 2 (.t 17)⟩,
  ⟨some 19, some (12, true), true, .ld false 1 (.t 18)⟩,
  ⟨some 20, some (12, true), true, .lenS (.t 19)⟩,
  ⟨some 21, some (12, true), false, .bin .eql (.t 15) (.t 20)⟩,
  ⟨some 22, none, false, .pick (.t 12) (.t 21) (.c (.bool false))⟩,
  ⟨some 23, none, false, .mv (.t 22)⟩,
  ⟨some 24, some (23, true), false, .fadr 2 (.t 2)⟩,
  ⟨some 25, some (23, true), false, .ld false 1 (.t 24)⟩,
  ⟨some 26, some (23, true), false, .call false (.c (.fn i_lease_all_lease_Range [] [])) [(.t 25), (.c (.fn i_lease_springs_1_1 [] []))]⟩,
  ⟨some 27, none, false, .pick (.t 23) (.t 26) (.c (.bool false))⟩,
  ⟨some 3, none, false, .mv (.t 27)⟩]

def a_lease_springs_1 : Ann := ⟨[(1, [3]), (0, [1, 2])], [], [], [], [], [], [], [], [], []⟩
def f_lease_springs_1 : Abs.Fn := ⟨2, [.t 3],
  (.seq (.reg [1, 2] f_lease_springs_1_r0) (.seq (.reg [3] f_lease_springs_1_r1) .ret))⟩

theorem e_lease_springs_1_r0 : type_of% f_lease_springs_1_r0.eq_1 := by_rfl f_lease_springs_1_r0.eq_1
theorem e_lease_springs_1_r1 : type_of% f_lease_springs_1_r1.eq_1 := by_rfl f_lease_springs_1_r1.eq_1
theorem e_lease_springs_1 : type_of% f_lease_springs_1.eq_1 := by_rfl f_lease_springs_1.eq_1
theorem ok_lease_springs_1 : fnC Tryz.prog a_lease_springs_1 Tryz.f91 = some f_lease_springs_1 := by kernel_rfl

/-! 92 fumarole/lease.all[fumarole/lease.Range] -/
def f_lease_all_lease_Range_r0 : List Abs.Op := [
  ⟨some 3, none, false, .boxi (.t 1)⟩,
  ⟨some 4, none, false, .mv (.c (.bool false))⟩]

def f_lease_all_lease_Range_r1 : List Abs.Op := [
  ⟨some 5, none, false, .mv (.t 0)⟩,
  ⟨some 6, none, false, .mkf i_lease_all_lease_Range_1 [] [(.t 3)]⟩,
  ⟨some 7, none, false, .call false (.c (.fn i_slices_ContainsFunc_lease_Range [] [])) [(.t 5), (.t 6)]⟩,
  ⟨some 8, none, false, .un .not (.t 7)⟩,
  ⟨some 4, none, false, .mv (.t 8)⟩]

def a_lease_all_lease_Range : Ann := ⟨[(1, [4]), (0, [0, 3])], [], [], [], [], [], [], [], [], []⟩
def f_lease_all_lease_Range : Abs.Fn := ⟨2, [.t 4],
  (.seq (.reg [0, 3] f_lease_all_lease_Range_r0) (.seq (.reg [4] f_lease_all_lease_Range_r1) .ret))⟩

theorem e_lease_all_lease_Range_r0 : type_of% f_lease_all_lease_Range_r0.eq_1 := by_rfl f_lease_all_lease_Range_r0.eq_1
theorem e_lease_all_lease_Range_r1 : type_of% f_lease_all_lease_Range_r1.eq_1 := by_rfl f_lease_all_lease_Range_r1.eq_1
theorem e_lease_all_lease_Range : type_of% f_lease_all_lease_Range.eq_1 := by_rfl f_lease_all_lease_Range.eq_1
theorem ok_lease_all_lease_Range : fnC Tryz.prog a_lease_all_lease_Range Tryz.f92 = some f_lease_all_lease_Range := by kernel_rfl

/-! 93 fumarole/lease.springs$1$1 -/
def f_lease_springs_1_1_r0 : List Abs.Op := [
  ⟨some 1, none, false, .boxi (.t 0)⟩,
  ⟨some 2, none, false, .mv (.c (.bool false))⟩]

def f_lease_springs_1_1_r1 : List Abs.Op := [
  ⟨some 3, none, false, .fadr 0 (.t 1)⟩,
  ⟨some 4, none, false, .ld false 1 (.t 3)⟩,
  ⟨some 5, none, false, .bin .leq (.c (.int .i64 0)) (.t 4)⟩,
  ⟨some 6, none, false, .mv (.t 5)⟩,
  ⟨some 7, some (6, true), false, .fadr 0 (.t 1)⟩,
  ⟨some 8, some (6, true), false, .ld false 1 (.t 7)⟩,
  ⟨some 9, some (6, true), false, .fadr 1 (.t 1)⟩,
  ⟨some 10, some (6, true), false, .ld false 1 (.t 9)⟩,
  ⟨some 11, some (6, true), false, .bin .leq (.t 8) (.t 10)⟩,
  ⟨some 12, none, false, .pick (.t 6) (.t 11) (.c (.bool false))⟩,
  ⟨some 13, none, false, .mv (.t 12)⟩,
  ⟨some 14, some (13, true), false, .fadr 1 (.t 1)⟩,
  ⟨some 15, some (13, true), false, .ld false 1 (.t 14)⟩,
  ⟨some 16, some (13, true), false, .bin .leq (.t 15) (.c (.int .i64 1000))⟩,
  ⟨some 17, none, false, .pick (.t 13) (.t 16) (.c (.bool false))⟩,
  ⟨some 2, none, false, .mv (.t 17)⟩]

def a_lease_springs_1_1 : Ann := ⟨[(1, [2]), (0, [1])], [], [], [], [], [], [], [], [], []⟩
def f_lease_springs_1_1 : Abs.Fn := ⟨1, [.t 2],
  (.seq (.reg [1] f_lease_springs_1_1_r0) (.seq (.reg [2] f_lease_springs_1_1_r1) .ret))⟩

theorem e_lease_springs_1_1_r0 : type_of% f_lease_springs_1_1_r0.eq_1 := by_rfl f_lease_springs_1_1_r0.eq_1
theorem e_lease_springs_1_1_r1 : type_of% f_lease_springs_1_1_r1.eq_1 := by_rfl f_lease_springs_1_1_r1.eq_1
theorem e_lease_springs_1_1 : type_of% f_lease_springs_1_1.eq_1 := by_rfl f_lease_springs_1_1.eq_1
theorem ok_lease_springs_1_1 : fnC Tryz.prog a_lease_springs_1_1 Tryz.f93 = some f_lease_springs_1_1 := by kernel_rfl

/-! 94 fumarole/lease.all[[]int] -/
def f_lease_all_L_int_r0 : List Abs.Op := [
  ⟨some 3, none, false, .boxi (.t 1)⟩,
  ⟨some 4, none, false, .mv (.c (.bool false))⟩]

def f_lease_all_L_int_r1 : List Abs.Op := [
  ⟨some 5, none, false, .mv (.t 0)⟩,
  ⟨some 6, none, false, .mkf i_lease_all_L_int_1 [] [(.t 3)]⟩,
  ⟨some 7, none, false, .call false (.c (.fn i_slices_ContainsFunc_L_int [] [])) [(.t 5), (.t 6)]⟩,
  ⟨some 8, none, false, .un .not (.t 7)⟩,
  ⟨some 4, none, false, .mv (.t 8)⟩]

def a_lease_all_L_int : Ann := ⟨[(1, [4]), (0, [0, 3])], [], [], [], [], [], [], [], [], []⟩
def f_lease_all_L_int : Abs.Fn := ⟨2, [.t 4],
  (.seq (.reg [0, 3] f_lease_all_L_int_r0) (.seq (.reg [4] f_lease_all_L_int_r1) .ret))⟩

theorem e_lease_all_L_int_r0 : type_of% f_lease_all_L_int_r0.eq_1 := by_rfl f_lease_all_L_int_r0.eq_1
theorem e_lease_all_L_int_r1 : type_of% f_lease_all_L_int_r1.eq_1 := by_rfl f_lease_all_L_int_r1.eq_1
theorem e_lease_all_L_int : type_of% f_lease_all_L_int.eq_1 := by_rfl f_lease_all_L_int.eq_1
theorem ok_lease_all_L_int : fnC Tryz.prog a_lease_all_L_int Tryz.f94 = some f_lease_all_L_int := by kernel_rfl

/-! 95 (fumarole/lease.Concession).valid$1 -/
def f_lease_Concession_valid_1_r0 : List Abs.Op := [
  ⟨some 3, none, false, .mv (.c (.bool false))⟩]

def f_lease_Concession_valid_1_r1 : List Abs.Op := [
  ⟨some 4, none, false, .mv (.t 0)⟩,
  ⟨some 5, none, false, .lenS (.t 4)⟩,
  ⟨some 6, none, false, .fadr 0 (.t 1)⟩,
  ⟨some 7, none, false, .ld false 1 (.t 6)⟩,
  ⟨some 8, none, false, .bin .eql (.t 5) (.t 7)⟩,
  ⟨some 9, none, false, .mv (.t 8)⟩,
  ⟨some 10, some (9, true), false, .mv (.t 0)⟩,
  ⟨some 11, some (9, true), false, .call false (.c (.fn i_lease_all_int [] [])) [(.t 10), (.c (.fn i_lease_Concession_valid_1_1 [] []))]⟩,
  ⟨some 12, none, false, .pick (.t 9) (.t 11) (.c (.bool false))⟩,
  ⟨some 13, none, false, .mv (.t 12)⟩,
  ⟨some 14, some (13, true), false, .mv (.t 0)⟩,
  ⟨some 15, some (13, true), false, .call false (.c (.fn i_lease_sum [] [])) [(.t 14)]⟩,
  ⟨some 16, some (13, true), false, .bin .leq (.t 15) (.c (.int .i64 1000))⟩,
  ⟨some 17, none, false, .pick (.t 13) (.t 16) (.c (.bool false))⟩,
  ⟨some 3, none, false, .mv (.t 17)⟩]

def a_lease_Concession_valid_1 : Ann := ⟨[(1, [3]), (0, [0, 1])], [], [], [], [], [], [], [], [], []⟩
def f_lease_Concession_valid_1 : Abs.Fn := ⟨2, [.t 3],
  (.seq (.reg [0, 1] f_lease_Concession_valid_1_r0) (.seq (.reg [3] f_lease_Concession_valid_1_r1) .ret))⟩

theorem e_lease_Concession_valid_1_r0 : type_of% f_lease_Concession_valid_1_r0.eq_1 := by_rfl f_lease_Concession_valid_1_r0.eq_1
theorem e_lease_Concession_valid_1_r1 : type_of% f_lease_Concession_valid_1_r1.eq_1 := by_rfl f_lease_Concession_valid_1_r1.eq_1
theorem e_lease_Concession_valid_1 : type_of% f_lease_Concession_valid_1.eq_1 := by_rfl f_lease_Concession_valid_1.eq_1
theorem ok_lease_Concession_valid_1 : fnC Tryz.prog a_lease_Concession_valid_1 Tryz.f95 = some f_lease_Concession_valid_1 := by kernel_rfl

/-! 96 (fumarole/lease.Concession).valid$1$1 -/
def f_lease_Concession_valid_1_1_r0 : List Abs.Op := [
  ⟨some 2, none, false, .mv (.c (.bool false))⟩]

def f_lease_Concession_valid_1_1_r1 : List Abs.Op := [
  ⟨some 3, none, false, .mv (.t 0)⟩,
  ⟨some 4, none, false, .call false (.c (.fn i_lease_within [] [])) [(.t 3), (.c (.int .i64 0)), (.c (.int .i64 1000))]⟩,
  ⟨some 2, none, false, .mv (.t 4)⟩]

def a_lease_Concession_valid_1_1 : Ann := ⟨[(1, [2]), (0, [0])], [], [], [], [], [], [], [], [], []⟩
def f_lease_Concession_valid_1_1 : Abs.Fn := ⟨1, [.t 2],
  (.seq (.reg [0] f_lease_Concession_valid_1_1_r0) (.seq (.reg [2] f_lease_Concession_valid_1_1_r1) .ret))⟩

theorem e_lease_Concession_valid_1_1_r0 : type_of% f_lease_Concession_valid_1_1_r0.eq_1 := by_rfl f_lease_Concession_valid_1_1_r0.eq_1
theorem e_lease_Concession_valid_1_1_r1 : type_of% f_lease_Concession_valid_1_1_r1.eq_1 := by_rfl f_lease_Concession_valid_1_1_r1.eq_1
theorem e_lease_Concession_valid_1_1 : type_of% f_lease_Concession_valid_1_1.eq_1 := by_rfl f_lease_Concession_valid_1_1.eq_1
theorem ok_lease_Concession_valid_1_1 : fnC Tryz.prog a_lease_Concession_valid_1_1 Tryz.f96 = some f_lease_Concession_valid_1_1 := by kernel_rfl

/-! 97 (fumarole/lease.Programme).planned$1 -/
def f_lease_Programme_planned_1_r0 : List Abs.Op := [
  ⟨some 3, none, false, .mv (.c (.bool false))⟩]

def f_lease_Programme_planned_1_r1 : List Abs.Op := [
  ⟨some 4, none, false, .mv (.t 0)⟩,
  ⟨some 5, none, false, .fadr 3 (.t 1)⟩,
  ⟨some 6, none, false, .ld false 1 (.t 5)⟩,
  ⟨some 7, none, false, .call false (.c (.fn i_lease_within [] [])) [(.t 4), (.c (.int .i64 0)), (.t 6)]⟩,
  ⟨some 3, none, false, .mv (.t 7)⟩]

def a_lease_Programme_planned_1 : Ann := ⟨[(1, [3]), (0, [0, 1])], [], [], [], [], [], [], [], [], []⟩
def f_lease_Programme_planned_1 : Abs.Fn := ⟨2, [.t 3],
  (.seq (.reg [0, 1] f_lease_Programme_planned_1_r0) (.seq (.reg [3] f_lease_Programme_planned_1_r1) .ret))⟩

theorem e_lease_Programme_planned_1_r0 : type_of% f_lease_Programme_planned_1_r0.eq_1 := by_rfl f_lease_Programme_planned_1_r0.eq_1
theorem e_lease_Programme_planned_1_r1 : type_of% f_lease_Programme_planned_1_r1.eq_1 := by_rfl f_lease_Programme_planned_1_r1.eq_1
theorem e_lease_Programme_planned_1 : type_of% f_lease_Programme_planned_1.eq_1 := by_rfl f_lease_Programme_planned_1.eq_1
theorem ok_lease_Programme_planned_1 : fnC Tryz.prog a_lease_Programme_planned_1 Tryz.f97 = some f_lease_Programme_planned_1 := by kernel_rfl

/-! 98 slices.ContainsFunc[[][]fumarole/lease.Rung,[]fumarole/lease.Rung] -/
def f_slices_ContainsFunc_L_lease_Rung_r0 : List Abs.Op := [
  ⟨some 4, none, false, .mv (.c (.bool false))⟩]

def f_slices_ContainsFunc_L_lease_Rung_r1 : List Abs.Op := [
  ⟨some 5, none, false, .mv (.t 0)⟩,
  ⟨some 6, none, false, .mv (.t 1)⟩,
  ⟨some 7, none, false, .call false (.c (.fn i_slices_IndexFunc_L_lease_Rung [] [])) [(.t 5), (.t 6)]⟩,
  ⟨some 8, none, false, .bin .geq (.t 7) (.c (.int .i64 0))⟩,
  ⟨some 4, none, false, .mv (.t 8)⟩]

def a_slices_ContainsFunc_L_lease_Rung : Ann := ⟨[(1, [4]), (0, [0, 1])], [], [], [], [], [], [], [], [], []⟩
def f_slices_ContainsFunc_L_lease_Rung : Abs.Fn := ⟨2, [.t 4],
  (.seq (.reg [0, 1] f_slices_ContainsFunc_L_lease_Rung_r0) (.seq (.reg [4] f_slices_ContainsFunc_L_lease_Rung_r1) .ret))⟩

theorem e_slices_ContainsFunc_L_lease_Rung_r0 : type_of% f_slices_ContainsFunc_L_lease_Rung_r0.eq_1 := by_rfl f_slices_ContainsFunc_L_lease_Rung_r0.eq_1
theorem e_slices_ContainsFunc_L_lease_Rung_r1 : type_of% f_slices_ContainsFunc_L_lease_Rung_r1.eq_1 := by_rfl f_slices_ContainsFunc_L_lease_Rung_r1.eq_1
theorem e_slices_ContainsFunc_L_lease_Rung : type_of% f_slices_ContainsFunc_L_lease_Rung.eq_1 := by_rfl f_slices_ContainsFunc_L_lease_Rung.eq_1
theorem ok_slices_ContainsFunc_L_lease_Rung : fnC Tryz.prog a_slices_ContainsFunc_L_lease_Rung Tryz.f98 = some f_slices_ContainsFunc_L_lease_Rung := by kernel_rfl

/-! 99 fumarole/lease.all[[]fumarole/lease.Rung]$1 -/
def f_lease_all_L_lease_Rung_1_r0 : List Abs.Op := [
  ⟨some 3, none, false, .mv (.c (.bool false))⟩]

def f_lease_all_L_lease_Rung_1_r1 : List Abs.Op := [
  ⟨some 4, none, false, .ld false 1 (.t 1)⟩,
  ⟨some 5, none, false, .mv (.t 0)⟩,
  ⟨some 6, none, false, .call false (.t 4) [(.t 5)]⟩,
  ⟨some 7, none, false, .un .not (.t 6)⟩,
  ⟨some 3, none, false, .mv (.t 7)⟩]

def a_lease_all_L_lease_Rung_1 : Ann := ⟨[(1, [3]), (0, [0, 1])], [], [], [], [], [], [], [], [], []⟩
def f_lease_all_L_lease_Rung_1 : Abs.Fn := ⟨2, [.t 3],
  (.seq (.reg [0, 1] f_lease_all_L_lease_Rung_1_r0) (.seq (.reg [3] f_lease_all_L_lease_Rung_1_r1) .ret))⟩

theorem e_lease_all_L_lease_Rung_1_r0 : type_of% f_lease_all_L_lease_Rung_1_r0.eq_1 := by_rfl f_lease_all_L_lease_Rung_1_r0.eq_1
theorem e_lease_all_L_lease_Rung_1_r1 : type_of% f_lease_all_L_lease_Rung_1_r1.eq_1 := by_rfl f_lease_all_L_lease_Rung_1_r1.eq_1
theorem e_lease_all_L_lease_Rung_1 : type_of% f_lease_all_L_lease_Rung_1.eq_1 := by_rfl f_lease_all_L_lease_Rung_1.eq_1
theorem ok_lease_all_L_lease_Rung_1 : fnC Tryz.prog a_lease_all_L_lease_Rung_1 Tryz.f99 = some f_lease_all_L_lease_Rung_1 := by kernel_rfl

/-! 100 slices.ContainsFunc[[]int,int] -/
def f_slices_ContainsFunc_int_r0 : List Abs.Op := [
  ⟨some 4, none, false, .mv (.c (.bool false))⟩]

def f_slices_ContainsFunc_int_r1 : List Abs.Op := [
  ⟨some 5, none, false, .mv (.t 0)⟩,
  ⟨some 6, none, false, .mv (.t 1)⟩,
  ⟨some 7, none, false, .call false (.c (.fn i_slices_IndexFunc_int [] [])) [(.t 5), (.t 6)]⟩,
  ⟨some 8, none, false, .bin .geq (.t 7) (.c (.int .i64 0))⟩,
  ⟨some 4, none, false, .mv (.t 8)⟩]

def a_slices_ContainsFunc_int : Ann := ⟨[(1, [4]), (0, [0, 1])], [], [], [], [], [], [], [], [], []⟩
def f_slices_ContainsFunc_int : Abs.Fn := ⟨2, [.t 4],
  (.seq (.reg [0, 1] f_slices_ContainsFunc_int_r0) (.seq (.reg [4] f_slices_ContainsFunc_int_r1) .ret))⟩

theorem e_slices_ContainsFunc_int_r0 : type_of% f_slices_ContainsFunc_int_r0.eq_1 := by_rfl f_slices_ContainsFunc_int_r0.eq_1
theorem e_slices_ContainsFunc_int_r1 : type_of% f_slices_ContainsFunc_int_r1.eq_1 := by_rfl f_slices_ContainsFunc_int_r1.eq_1
theorem e_slices_ContainsFunc_int : type_of% f_slices_ContainsFunc_int.eq_1 := by_rfl f_slices_ContainsFunc_int.eq_1
theorem ok_slices_ContainsFunc_int : fnC Tryz.prog a_slices_ContainsFunc_int Tryz.f100 = some f_slices_ContainsFunc_int := by kernel_rfl

/-! 101 fumarole/lease.all[int]$1 -/
def f_lease_all_int_1_r0 : List Abs.Op := [
  ⟨some 3, none, false, .mv (.c (.bool false))⟩]

def f_lease_all_int_1_r1 : List Abs.Op := [
  ⟨some 4, none, false, .ld false 1 (.t 1)⟩,
  ⟨some 5, none, false, .mv (.t 0)⟩,
  ⟨some 6, none, false, .call false (.t 4) [(.t 5)]⟩,
  ⟨some 7, none, false, .un .not (.t 6)⟩,
  ⟨some 3, none, false, .mv (.t 7)⟩]

def a_lease_all_int_1 : Ann := ⟨[(1, [3]), (0, [0, 1])], [], [], [], [], [], [], [], [], []⟩
def f_lease_all_int_1 : Abs.Fn := ⟨2, [.t 3],
  (.seq (.reg [0, 1] f_lease_all_int_1_r0) (.seq (.reg [3] f_lease_all_int_1_r1) .ret))⟩

theorem e_lease_all_int_1_r0 : type_of% f_lease_all_int_1_r0.eq_1 := by_rfl f_lease_all_int_1_r0.eq_1
theorem e_lease_all_int_1_r1 : type_of% f_lease_all_int_1_r1.eq_1 := by_rfl f_lease_all_int_1_r1.eq_1
theorem e_lease_all_int_1 : type_of% f_lease_all_int_1.eq_1 := by_rfl f_lease_all_int_1.eq_1
theorem ok_lease_all_int_1 : fnC Tryz.prog a_lease_all_int_1 Tryz.f101 = some f_lease_all_int_1 := by kernel_rfl

/-! 102 slices.SortStableFunc[[]int,int] -/
def f_slices_SortStableFunc_int_r0 : List Abs.Op := [
  ⟨some 4, none, false, .mv (.t 0)⟩,
  ⟨some 5, none, false, .mv (.t 0)⟩,
  ⟨some 6, none, false, .lenS (.t 5)⟩,
  ⟨some 7, none, false, .mv (.t 1)⟩,
  ⟨some 8, none, false, .call false (.c (.fn i_slices_stableCmpFunc_int [] [])) [(.t 4), (.t 6), (.t 7)]⟩]

def a_slices_SortStableFunc_int : Ann := ⟨[(0, [])], [], [], [], [], [], [], [], [], []⟩
def f_slices_SortStableFunc_int : Abs.Fn := ⟨2, [],
  (.reg [] f_slices_SortStableFunc_int_r0)⟩

theorem e_slices_SortStableFunc_int_r0 : type_of% f_slices_SortStableFunc_int_r0.eq_1 := by_rfl f_slices_SortStableFunc_int_r0.eq_1
theorem e_slices_SortStableFunc_int : type_of% f_slices_SortStableFunc_int.eq_1 := by_rfl f_slices_SortStableFunc_int.eq_1
theorem ok_slices_SortStableFunc_int : fnC Tryz.prog a_slices_SortStableFunc_int Tryz.f102 = some f_slices_SortStableFunc_int := by kernel_rfl

/-! 103 fumarole/lease.ranked[fumarole/lease.portion]$1 -/
def f_lease_ranked_lease_portion_1_r0 : List Abs.Op := [
  ⟨some 6, none, false, .mv (.c (.int .i64 0))⟩]

def f_lease_ranked_lease_portion_1_r1 : List Abs.Op := [
  ⟨some 9, none, true, .ld false 1 (.t 2)⟩,
  ⟨some 10, none, true, .ld false 1 (.t 3)⟩,
  ⟨some 11, none, true, .mv (.t 0)⟩,
  ⟨some 12, none, true, .idxS 2 (.t 10) (.t 11)⟩,
  ⟨some 13, none, true, .ld true 2 (.t 12)⟩,
  ⟨some 14, none, true, .call false (.t 9) [(.t 13)]⟩,
  ⟨some 15, none, true, .ld false 1 (.t 2)⟩,
  ⟨some 16, none, true, .ld false 1 (.t 3)⟩,
  ⟨some 17, none, true, .mv (.t 1)⟩,
  ⟨some 18, none, true, .idxS 2 (.t 16) (.t 17)⟩,
  ⟨some 19, none, true, .ld true 2 (.t 18)⟩,
  ⟨some 20, none, false, .call false (.t 15) [(.t 19)]⟩,
  ⟨some 7, none, false, .mv (.t 14)⟩,
  ⟨some 8, none, false, .mv (.t 20)⟩]

def f_lease_ranked_lease_portion_1_r2 : List Abs.Op := [
  ⟨some 22, none, false, .mv (.t 7)⟩,
  ⟨some 23, none, false, .mv (.t 8)⟩,
  ⟨some 24, none, false, .bin .gtr (.t 22) (.t 23)⟩,
  ⟨some 21, none, false, .mv (.t 24)⟩]

def f_lease_ranked_lease_portion_1_r3 : List Abs.Op := [
  ⟨some 6, none, false, .mv (.c (.int .i64 (-1)))⟩]

def f_lease_ranked_lease_portion_1_r4 : List Abs.Op := [
  ⟨some 26, none, false, .mv (.t 7)⟩,
  ⟨some 27, none, false, .mv (.t 8)⟩,
  ⟨some 28, none, false, .bin .lss (.t 26) (.t 27)⟩,
  ⟨some 25, none, false, .mv (.t 28)⟩]

def f_lease_ranked_lease_portion_1_r5 : List Abs.Op := [
  ⟨some 6, none, false, .mv (.c (.int .i64 1))⟩]

def f_lease_ranked_lease_portion_1_r6 : List Abs.Op := [
  ⟨some 6, none, false, .mv (.c (.int .i64 0))⟩]

def a_lease_ranked_lease_portion_1 : Ann := ⟨[(6, [6]), (3, [6]), (5, [6]), (4, [25]), (2, [7, 8, 21]), (1, [7, 8]), (0, [0, 1, 2, 3])], [], [], [], [], [], [], [], [], []⟩
def f_lease_ranked_lease_portion_1 : Abs.Fn := ⟨4, [.t 6],
  (.seq (.reg [0, 1, 2, 3] f_lease_ranked_lease_portion_1_r0) (.seq (.seq (.reg [7, 8] f_lease_ranked_lease_portion_1_r1) (.blk 0 (.seq (.reg [7, 8, 21] f_lease_ranked_lease_portion_1_r2) (.ite (.t 21) (.seq (.reg [6] f_lease_ranked_lease_portion_1_r3) .ret) (.seq (.reg [25] f_lease_ranked_lease_portion_1_r4) (.ite (.t 25) (.seq (.reg [6] f_lease_ranked_lease_portion_1_r5) .ret) .nop)))))) (.seq (.reg [6] f_lease_ranked_lease_portion_1_r6) .ret)))⟩

theorem e_lease_ranked_lease_portion_1_r0 : type_of% f_lease_ranked_lease_portion_1_r0.eq_1 := by_rfl f_lease_ranked_lease_portion_1_r0.eq_1
theorem e_lease_ranked_lease_portion_1_r1 : type_of% f_lease_ranked_lease_portion_1_r1.eq_1 := by_rfl f_lease_ranked_lease_portion_1_r1.eq_1
theorem e_lease_ranked_lease_portion_1_r2 : type_of% f_lease_ranked_lease_portion_1_r2.eq_1 := by_rfl f_lease_ranked_lease_portion_1_r2.eq_1
theorem e_lease_ranked_lease_portion_1_r3 : type_of% f_lease_ranked_lease_portion_1_r3.eq_1 := by_rfl f_lease_ranked_lease_portion_1_r3.eq_1
theorem e_lease_ranked_lease_portion_1_r4 : type_of% f_lease_ranked_lease_portion_1_r4.eq_1 := by_rfl f_lease_ranked_lease_portion_1_r4.eq_1
theorem e_lease_ranked_lease_portion_1_r5 : type_of% f_lease_ranked_lease_portion_1_r5.eq_1 := by_rfl f_lease_ranked_lease_portion_1_r5.eq_1
theorem e_lease_ranked_lease_portion_1_r6 : type_of% f_lease_ranked_lease_portion_1_r6.eq_1 := by_rfl f_lease_ranked_lease_portion_1_r6.eq_1
theorem e_lease_ranked_lease_portion_1 : type_of% f_lease_ranked_lease_portion_1.eq_1 := by_rfl f_lease_ranked_lease_portion_1.eq_1
theorem ok_lease_ranked_lease_portion_1 : fnC Tryz.prog a_lease_ranked_lease_portion_1 Tryz.f103 = some f_lease_ranked_lease_portion_1 := by kernel_rfl

/-! 104 slices.ContainsFunc[[]fumarole/lease.Year,fumarole/lease.Year] -/
def f_slices_ContainsFunc_lease_Year_r0 : List Abs.Op := [
  ⟨some 4, none, false, .mv (.c (.bool false))⟩]

def f_slices_ContainsFunc_lease_Year_r1 : List Abs.Op := [
  ⟨some 5, none, false, .mv (.t 0)⟩,
  ⟨some 6, none, false, .mv (.t 1)⟩,
  ⟨some 7, none, false, .call false (.c (.fn i_slices_IndexFunc_lease_Year [] [])) [(.t 5), (.t 6)]⟩,
  ⟨some 8, none, false, .bin .geq (.t 7) (.c (.int .i64 0))⟩,
  ⟨some 4, none, false, .mv (.t 8)⟩]

def a_slices_ContainsFunc_lease_Year : Ann := ⟨[(1, [4]), (0, [0, 1])], [], [], [], [], [], [], [], [], []⟩
def f_slices_ContainsFunc_lease_Year : Abs.Fn := ⟨2, [.t 4],
  (.seq (.reg [0, 1] f_slices_ContainsFunc_lease_Year_r0) (.seq (.reg [4] f_slices_ContainsFunc_lease_Year_r1) .ret))⟩

theorem e_slices_ContainsFunc_lease_Year_r0 : type_of% f_slices_ContainsFunc_lease_Year_r0.eq_1 := by_rfl f_slices_ContainsFunc_lease_Year_r0.eq_1
theorem e_slices_ContainsFunc_lease_Year_r1 : type_of% f_slices_ContainsFunc_lease_Year_r1.eq_1 := by_rfl f_slices_ContainsFunc_lease_Year_r1.eq_1
theorem e_slices_ContainsFunc_lease_Year : type_of% f_slices_ContainsFunc_lease_Year.eq_1 := by_rfl f_slices_ContainsFunc_lease_Year.eq_1
theorem ok_slices_ContainsFunc_lease_Year : fnC Tryz.prog a_slices_ContainsFunc_lease_Year Tryz.f104 = some f_slices_ContainsFunc_lease_Year := by kernel_rfl

/-! 105 fumarole/lease.all[fumarole/lease.Year]$1 -/
def f_lease_all_lease_Year_1_r0 : List Abs.Op := [
  ⟨some 2, none, false, .boxi (.t 0)⟩,
  ⟨some 3, none, false, .mv (.c (.bool false))⟩]

def f_lease_all_lease_Year_1_r1 : List Abs.Op := [
  ⟨some 4, none, false, .ld false 1 (.t 1)⟩,
  ⟨some 5, none, false, .ld true 2 (.t 2)⟩,
  ⟨some 6, none, false, .call false (.t 4) [(.t 5)]⟩,
  ⟨some 7, none, false, .un .not (.t 6)⟩,
  ⟨some 3, none, false, .mv (.t 7)⟩]

def a_lease_all_lease_Year_1 : Ann := ⟨[(1, [3]), (0, [1, 2])], [], [], [], [], [], [], [], [], []⟩
def f_lease_all_lease_Year_1 : Abs.Fn := ⟨2, [.t 3],
  (.seq (.reg [1, 2] f_lease_all_lease_Year_1_r0) (.seq (.reg [3] f_lease_all_lease_Year_1_r1) .ret))⟩

theorem e_lease_all_lease_Year_1_r0 : type_of% f_lease_all_lease_Year_1_r0.eq_1 := by_rfl f_lease_all_lease_Year_1_r0.eq_1
theorem e_lease_all_lease_Year_1_r1 : type_of% f_lease_all_lease_Year_1_r1.eq_1 := by_rfl f_lease_all_lease_Year_1_r1.eq_1
theorem e_lease_all_lease_Year_1 : type_of% f_lease_all_lease_Year_1.eq_1 := by_rfl f_lease_all_lease_Year_1.eq_1
theorem ok_lease_all_lease_Year_1 : fnC Tryz.prog a_lease_all_lease_Year_1 Tryz.f105 = some f_lease_all_lease_Year_1 := by kernel_rfl

/-! 106 (fumarole/lease.work).ladders$1 -/
def f_lease_work_ladders_1_r0 : List Abs.Op := [
  ⟨some 10, none, false, .bld [(.int .i64 0), (.int .i64 0)] [(0, 1, (.c (.int .i64 100000000))), (1, 1, (.c (.int .i64 0)))]⟩,
  ⟨some 11, none, false, .bsi 1 2 [(.int .i64 0), (.int .i64 0)] [(0, 2, (.t 10))]⟩,
  ⟨some 3, none, false, .mv (.t 11)⟩]

def f_lease_work_ladders_1_r1 : List Abs.Op := [
  ⟨some 12, none, false, .fadr 0 (.t 1)⟩,
  ⟨some 13, none, false, .fadr 4 (.t 12)⟩,
  ⟨some 14, none, false, .ld false 1 (.t 13)⟩,
  ⟨some 15, none, false, .lenS (.t 14)⟩,
  ⟨some 16, none, false, .bin .sub (.t 15) (.c (.int .i64 1))⟩,
  ⟨some 4, none, false, .mv (.t 16)⟩]

def f_lease_work_ladders_1_r2 : List Abs.Op := [
  ⟨some 17, none, false, .mv (.t 4)⟩,
  ⟨some 18, none, false, .bin .geq (.t 17) (.c (.int .i64 0))⟩]

def f_lease_work_ladders_1_r3 : List Abs.Op := [
  ⟨some 5, none, false, .nilb 2⟩]

def f_lease_work_ladders_1_r4 : List Abs.Op := [
  ⟨some 21, none, false, .ld true 5 (.t 1)⟩,
  ⟨some 22, none, false, .mv (.t 4)⟩,
  ⟨some 23, none, false, .mv (.t 3)⟩,
  ⟨some 24, none, false, .call false (.c (.fn i_lease_work_breaks [] [])) [(.t 21), (.t 22), (.t 23)]⟩,
  ⟨some 25, none, false, .lenS (.t 24)⟩,
  ⟨some 26, none, false, .mv (.c (.int .i64 0))⟩]

def f_lease_work_ladders_1_r5 : List Abs.Op := [
  ⟨some 27, none, false, .bin .lss (.t 26) (.t 25)⟩]

def f_lease_work_ladders_1_r6 : List Abs.Op := [
  ⟨some 28, none, false, .idxS 1 (.t 24) (.t 26)⟩,
  ⟨some 29, none, false, .ld false 1 (.t 28)⟩,
  ⟨some 7, none, false, .mv (.t 29)⟩]

def f_lease_work_ladders_1_r7 : List Abs.Op := [
  ⟨some 30, none, false, .ld true 5 (.t 1)⟩,
  ⟨some 31, none, false, .mv (.t 4)⟩,
  ⟨some 32, none, false, .mv (.t 7)⟩,
  ⟨some 33, none, false, .mv (.t 3)⟩,
  ⟨some 34, none, false, .call false (.c (.fn i_lease_work_least [] [])) [(.t 30), (.t 31), (.t 32), (.t 33)]⟩,
  ⟨some 8, none, false, .mv (.t 34)⟩]

def f_lease_work_ladders_1_r8 : List Abs.Op := [
  ⟨some 35, none, false, .mv (.t 5)⟩,
  ⟨some 36, none, false, .lenS (.t 35)⟩,
  ⟨some 9, none, false, .mv (.t 36)⟩]

def f_lease_work_ladders_1_r9 : List Abs.Op := [
  ⟨some 37, none, false, .mv (.t 9)⟩,
  ⟨some 38, none, false, .bin .gtr (.t 37) (.c (.int .i64 0))⟩,
  ⟨some 39, none, false, .mv (.t 38)⟩,
  ⟨some 40, some (39, true), false, .mv (.t 5)⟩,
  ⟨some 41, some (39, true), false, .mv (.t 9)⟩,
  ⟨some 42, some (39, true), false, .bin .sub (.t 41) (.c (.int .i64 1))⟩,
  ⟨some 43, some (39, true), false, .idxS 2 (.t 40) (.t 42)⟩,
  ⟨some 44, some (39, true), false, .fadr 1 (.t 43)⟩,
  ⟨some 45, some (39, true), false, .ld false 1 (.t 44)⟩,
  ⟨some 46, some (39, true), false, .mv (.t 8)⟩,
  ⟨some 47, some (39, true), false, .bin .eql (.t 45) (.t 46)⟩,
  ⟨some 48, none, false, .pick (.t 39) (.t 47) (.c (.bool false))⟩]

def f_lease_work_ladders_1_r10 : List Abs.Op := [
  ⟨some 49, none, false, .mv (.t 5)⟩,
  ⟨some 50, none, false, .mv (.t 9)⟩,
  ⟨some 51, none, false, .bin .sub (.t 50) (.c (.int .i64 1))⟩,
  ⟨some 52, none, false, .mv (.t 7)⟩,
  ⟨some 53, none, false, .idxS 2 (.t 49) (.t 51)⟩,
  ⟨some 54, none, false, .fadr 0 (.t 53)⟩,
  ⟨none, none, false, .st [] 1 (.t 54) (.t 52)⟩]

def f_lease_work_ladders_1_r11 : List Abs.Op := [
  ⟨some 55, none, false, .mv (.t 5)⟩,
  ⟨some 56, none, false, .mv (.t 7)⟩,
  ⟨some 57, none, false, .mv (.t 8)⟩,
  ⟨some 58, none, false, .bld [(.int .i64 0), (.int .i64 0)] [(0, 1, (.t 56)), (1, 1, (.t 57))]⟩,
  ⟨some 59, none, false, .bsi 1 2 [(.int .i64 0), (.int .i64 0)] [(0, 2, (.t 58))]⟩,
  ⟨some 60, none, false, .app 2 16 (.t 55) (.t 59)⟩,
  ⟨some 5, none, false, .mv (.t 60)⟩]

def f_lease_work_ladders_1_r12 : List Abs.Op := [
  ⟨some 61, none, false, .bin .add (.t 26) (.c (.int .i64 1))⟩,
  ⟨some 26, none, false, .mv (.t 61)⟩]

def f_lease_work_ladders_1_l13 : Abs.Cmd :=
  (.seq (.reg [0, 1, 3, 4, 5, 24, 25, 26, 27] f_lease_work_ladders_1_r5) (.seq (.ite (.t 27) .nop (.exit 2)) (.seq (.blk 3 (.seq (.reg [0, 1, 3, 4, 5, 7, 24, 25, 26] f_lease_work_ladders_1_r6) (.seq (.reg [0, 1, 3, 4, 5, 7, 8, 24, 25, 26] f_lease_work_ladders_1_r7) (.seq (.reg [0, 1, 3, 4, 5, 7, 8, 9, 24, 25, 26] f_lease_work_ladders_1_r8) (.seq (.reg [0, 1, 3, 4, 5, 7, 8, 9, 24, 25, 26, 48] f_lease_work_ladders_1_r9) (.ite (.t 48) (.reg [0, 1, 3, 4, 5, 24, 25, 26] f_lease_work_ladders_1_r10) (.reg [0, 1, 3, 4, 5, 24, 25, 26] f_lease_work_ladders_1_r11))))))) (.reg [0, 1, 3, 4, 5, 24, 25, 26] f_lease_work_ladders_1_r12))))

def f_lease_work_ladders_1_r14 : List Abs.Op := [
  ⟨some 62, none, false, .mv (.t 0)⟩,
  ⟨some 63, none, false, .mv (.t 4)⟩,
  ⟨some 64, none, false, .mv (.t 5)⟩,
  ⟨some 65, none, false, .call false (.t 62) [(.t 63), (.t 64)]⟩,
  ⟨some 66, none, false, .un .not (.t 65)⟩]

def f_lease_work_ladders_1_r15 : List Abs.Op := [
  ⟨some 67, none, false, .mv (.t 5)⟩,
  ⟨some 3, none, false, .mv (.t 67)⟩]

def f_lease_work_ladders_1_r16 : List Abs.Op := [
  ⟨some 19, none, false, .mv (.t 4)⟩,
  ⟨some 20, none, false, .bin .sub (.t 19) (.c (.int .i64 1))⟩,
  ⟨some 4, none, false, .mv (.t 20)⟩]

def f_lease_work_ladders_1_l17 : Abs.Cmd :=
  (.seq (.seq (.reg [0, 1, 3, 4, 18] f_lease_work_ladders_1_r2) (.ite (.t 18) .nop (.exit 0))) (.seq (.blk 1 (.seq (.reg [0, 1, 3, 4, 5] f_lease_work_ladders_1_r3) (.seq (.seq (.reg [0, 1, 3, 4, 5, 24, 25, 26] f_lease_work_ladders_1_r4) (.blk 2 (.loop [0, 1, 3, 4, 5, 24, 25, 26] false f_lease_work_ladders_1_l13))) (.seq (.seq (.seq (.frz [5]) (.reg [0, 1, 4, 5, 66] f_lease_work_ladders_1_r14)) (.ite (.t 66) .ret .nop)) (.reg [0, 1, 3, 4] f_lease_work_ladders_1_r15))))) (.reg [0, 1, 3, 4] f_lease_work_ladders_1_r16)))

def a_lease_work_ladders_1 : Ann := ⟨[(3, [0, 1, 3, 4]), (15, [0, 1, 3, 4]), (14, [0, 1, 4, 5, 66]), (13, [0, 1, 3, 4, 5, 24, 25, 26]), (11, [0, 1, 3, 4, 5, 24, 25, 26]), (12, [0, 1, 3, 4, 5, 24, 25, 26]), (10, [0, 1, 3, 4, 5, 7, 8, 9, 24, 25, 26, 48]), (9, [0, 1, 3, 4, 5, 7, 8, 9, 24, 25, 26]), (8, [0, 1, 3, 4, 5, 7, 8, 24, 25, 26]), (7, [0, 1, 3, 4, 5, 7, 24, 25, 26]), (6, [0, 1, 3, 4, 5, 24, 25, 26, 27]), (5, [0, 1, 3, 4, 5, 24, 25, 26]), (4, [0, 1, 3, 4, 5]), (2, [0, 1, 3, 4, 18]), (1, [0, 1, 3, 4]), (0, [0, 1, 3])], [(2, [0, 1, 3, 4, 5, 24, 25, 26]), (0, [0, 1, 3, 4])], [0], [5], [], [], [], [(14, [5])], [], []⟩
def f_lease_work_ladders_1 : Abs.Fn := ⟨2, [],
  (.seq (.reg [0, 1, 3] f_lease_work_ladders_1_r0) (.seq (.reg [0, 1, 3, 4] f_lease_work_ladders_1_r1) (.blk 0 (.loop [0, 1, 3, 4] true f_lease_work_ladders_1_l17))))⟩

theorem e_lease_work_ladders_1_r0 : type_of% f_lease_work_ladders_1_r0.eq_1 := by_rfl f_lease_work_ladders_1_r0.eq_1
theorem e_lease_work_ladders_1_r1 : type_of% f_lease_work_ladders_1_r1.eq_1 := by_rfl f_lease_work_ladders_1_r1.eq_1
theorem e_lease_work_ladders_1_r2 : type_of% f_lease_work_ladders_1_r2.eq_1 := by_rfl f_lease_work_ladders_1_r2.eq_1
theorem e_lease_work_ladders_1_r3 : type_of% f_lease_work_ladders_1_r3.eq_1 := by_rfl f_lease_work_ladders_1_r3.eq_1
theorem e_lease_work_ladders_1_r4 : type_of% f_lease_work_ladders_1_r4.eq_1 := by_rfl f_lease_work_ladders_1_r4.eq_1
theorem e_lease_work_ladders_1_r5 : type_of% f_lease_work_ladders_1_r5.eq_1 := by_rfl f_lease_work_ladders_1_r5.eq_1
theorem e_lease_work_ladders_1_r6 : type_of% f_lease_work_ladders_1_r6.eq_1 := by_rfl f_lease_work_ladders_1_r6.eq_1
theorem e_lease_work_ladders_1_r7 : type_of% f_lease_work_ladders_1_r7.eq_1 := by_rfl f_lease_work_ladders_1_r7.eq_1
theorem e_lease_work_ladders_1_r8 : type_of% f_lease_work_ladders_1_r8.eq_1 := by_rfl f_lease_work_ladders_1_r8.eq_1
theorem e_lease_work_ladders_1_r9 : type_of% f_lease_work_ladders_1_r9.eq_1 := by_rfl f_lease_work_ladders_1_r9.eq_1
theorem e_lease_work_ladders_1_r10 : type_of% f_lease_work_ladders_1_r10.eq_1 := by_rfl f_lease_work_ladders_1_r10.eq_1
theorem e_lease_work_ladders_1_r11 : type_of% f_lease_work_ladders_1_r11.eq_1 := by_rfl f_lease_work_ladders_1_r11.eq_1
theorem e_lease_work_ladders_1_r12 : type_of% f_lease_work_ladders_1_r12.eq_1 := by_rfl f_lease_work_ladders_1_r12.eq_1
theorem e_lease_work_ladders_1_l13 : type_of% f_lease_work_ladders_1_l13.eq_1 := by_rfl f_lease_work_ladders_1_l13.eq_1
theorem e_lease_work_ladders_1_r14 : type_of% f_lease_work_ladders_1_r14.eq_1 := by_rfl f_lease_work_ladders_1_r14.eq_1
theorem e_lease_work_ladders_1_r15 : type_of% f_lease_work_ladders_1_r15.eq_1 := by_rfl f_lease_work_ladders_1_r15.eq_1
theorem e_lease_work_ladders_1_r16 : type_of% f_lease_work_ladders_1_r16.eq_1 := by_rfl f_lease_work_ladders_1_r16.eq_1
theorem e_lease_work_ladders_1_l17 : type_of% f_lease_work_ladders_1_l17.eq_1 := by_rfl f_lease_work_ladders_1_l17.eq_1
theorem e_lease_work_ladders_1 : type_of% f_lease_work_ladders_1.eq_1 := by_rfl f_lease_work_ladders_1.eq_1
theorem ok_lease_work_ladders_1 : fnC Tryz.prog a_lease_work_ladders_1 Tryz.f106 = some f_lease_work_ladders_1 := by kernel_rfl

end Go.Proofs.YtcccafphhmcifaaGreat
