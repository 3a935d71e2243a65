/- The code of functions of the program, in the small instruction set; each is what the translation makes of it. -/
import Derived.Test.YtcjjdaifpboaaaaIds
set_option linter.unusedVariables false
set_option maxRecDepth 100000
namespace Go.Proofs.Ytcjjdaifpboaaaa
open Go Go.Abs
/-! 105 (fumarole/trial.Test).sets$1 -/
def f_trial_Test_sets_1_r0 : List Abs.Op := [
  ⟨some 2, none, false, .boxi (.t 0)⟩]

def f_trial_Test_sets_1_r1 : List Abs.Op := [
  ⟨some 6, none, false, .ld true 7 (.t 1)⟩,
  ⟨some 7, none, false, .call true (.c (.fn i_trial_Test_rooms [] [])) [(.t 6)]⟩]

def f_trial_Test_sets_1_r2 : List Abs.Op := [
  ⟨some 3, none, false, .alcv [] [(.int .i64 0), (.int .i64 0), (.int .i64 0)]⟩,
  ⟨none, none, false, .stv 3 [] 3 3 (.t 8)⟩]

def f_trial_Test_sets_1_r3 : List Abs.Op := [
  ⟨some 4, none, false, .mv (.t 9)⟩]

def f_trial_Test_sets_1_r4 : List Abs.Op := [
  ⟨some 10, none, false, .mv (.t 4)⟩,
  ⟨some 11, none, false, .call false (.c (.fn i_trial_meet [] [])) [(.t 10)]⟩,
  ⟨some 5, none, false, .alcv [] [(.int .i64 0), (.int .i64 0)]⟩,
  ⟨none, none, false, .stv 5 [] 2 5 (.t 11)⟩]

def f_trial_Test_sets_1_r5 : List Abs.Op := [
  ⟨some 12, none, false, .fadr 0 (.t 5)⟩,
  ⟨some 13, none, false, .ldv 5 false 1 12⟩,
  ⟨some 14, none, false, .fadr 1 (.t 5)⟩,
  ⟨some 15, none, false, .ldv 5 false 1 14⟩,
  ⟨some 16, none, false, .bin .leq (.t 13) (.t 15)⟩,
  ⟨some 17, none, false, .mv (.t 16)⟩,
  ⟨some 18, some (17, true), false, .ld false 1 (.t 2)⟩,
  ⟨some 19, some (17, true), false, .ldv 3 true 3 3⟩,
  ⟨some 20, some (17, true), false, .ldv 5 true 2 5⟩,
  ⟨some 21, some (17, true), false, .call false (.t 18) [(.t 19), (.t 20)]⟩,
  ⟨some 22, some (17, true), false, .un .not (.t 21)⟩,
  ⟨some 23, none, false, .pick (.t 17) (.t 22) (.c (.bool false))⟩]

def f_trial_Test_sets_1_a6 : Abs.Cmd :=
  (.seq (.reg [2, 3, 9] f_trial_Test_sets_1_r2) (.reg [2, 3, 4] f_trial_Test_sets_1_r3))

def f_trial_Test_sets_1_b6 : Abs.Cmd :=
  (.blk 1 (.seq (.reg [2, 3, 5] f_trial_Test_sets_1_r4) (.seq (.reg [23] f_trial_Test_sets_1_r5) (.ite (.t 23) .ret .nop))))

def a_trial_Test_sets_1 : Ann := ⟨[(5, [23]), (4, [2, 3, 5]), (3, [2, 3, 4]), (2, [2, 3, 9]), (1, [2, 7]), (0, [1, 2])], [(0, [2])], [], [3, 5], [3, 5], [], [1001], [], [], []⟩
def f_trial_Test_sets_1 : Abs.Fn := ⟨2, [],
  (.seq (.reg [1, 2] f_trial_Test_sets_1_r0) (.seq (.reg [2, 7] f_trial_Test_sets_1_r1) (.blk 0 (.rngf [2] (.t 7) [8, 9] f_trial_Test_sets_1_a6 f_trial_Test_sets_1_b6))))⟩

theorem e_trial_Test_sets_1_r0 : type_of% f_trial_Test_sets_1_r0.eq_1 := by_rfl f_trial_Test_sets_1_r0.eq_1
theorem e_trial_Test_sets_1_r1 : type_of% f_trial_Test_sets_1_r1.eq_1 := by_rfl f_trial_Test_sets_1_r1.eq_1
theorem e_trial_Test_sets_1_r2 : type_of% f_trial_Test_sets_1_r2.eq_1 := by_rfl f_trial_Test_sets_1_r2.eq_1
theorem e_trial_Test_sets_1_r3 : type_of% f_trial_Test_sets_1_r3.eq_1 := by_rfl f_trial_Test_sets_1_r3.eq_1
theorem e_trial_Test_sets_1_r4 : type_of% f_trial_Test_sets_1_r4.eq_1 := by_rfl f_trial_Test_sets_1_r4.eq_1
theorem e_trial_Test_sets_1_r5 : type_of% f_trial_Test_sets_1_r5.eq_1 := by_rfl f_trial_Test_sets_1_r5.eq_1
theorem e_trial_Test_sets_1_a6 : type_of% f_trial_Test_sets_1_a6.eq_1 := by_rfl f_trial_Test_sets_1_a6.eq_1
theorem e_trial_Test_sets_1_b6 : type_of% f_trial_Test_sets_1_b6.eq_1 := by_rfl f_trial_Test_sets_1_b6.eq_1
theorem e_trial_Test_sets_1 : type_of% f_trial_Test_sets_1.eq_1 := by_rfl f_trial_Test_sets_1.eq_1
theorem ok_trial_Test_sets_1 : fnC Try.prog a_trial_Test_sets_1 Try.f105 = some f_trial_Test_sets_1 := by kernel_rfl

/-! 106 fumarole/trial.meet -/
def f_trial_meet_r0 : List Abs.Op := [
  ⟨some 2, none, false, .alcv [] [(.int .i64 0), (.int .i64 0)]⟩]

def f_trial_meet_r1 : List Abs.Op := [
  ⟨some 6, none, false, .mv (.t 0)⟩,
  ⟨some 7, none, false, .idxS 2 (.t 6) (.c (.int .i64 0))⟩,
  ⟨some 8, none, false, .ld true 2 (.t 7)⟩,
  ⟨some 3, none, false, .alcv [] [(.int .i64 0), (.int .i64 0)]⟩,
  ⟨none, none, false, .stv 3 [] 2 3 (.t 8)⟩]

def f_trial_meet_r2 : List Abs.Op := [
  ⟨some 9, none, false, .mv (.t 0)⟩,
  ⟨some 10, none, false, .slc 2 (.t 9) (some (.c (.int .i64 1))) none none⟩,
  ⟨some 11, none, false, .lenS (.t 10)⟩,
  ⟨some 12, none, false, .mv (.c (.int .i64 0))⟩]

def f_trial_meet_r3 : List Abs.Op := [
  ⟨some 13, none, false, .bin .lss (.t 12) (.t 11)⟩]

def f_trial_meet_r4 : List Abs.Op := [
  ⟨some 14, none, false, .idxS 2 (.t 10) (.t 12)⟩,
  ⟨some 15, none, false, .ld true 2 (.t 14)⟩,
  ⟨some 5, none, false, .alcv [] [(.int .i64 0), (.int .i64 0)]⟩,
  ⟨none, none, false, .stv 5 [] 2 5 (.t 15)⟩]

def f_trial_meet_r5 : List Abs.Op := [
  ⟨some 16, none, false, .fadr 0 (.t 3)⟩,
  ⟨some 17, none, false, .ldv 3 false 1 16⟩,
  ⟨some 18, none, false, .fadr 0 (.t 5)⟩,
  ⟨some 19, none, false, .ldv 5 false 1 18⟩,
  ⟨some 20, none, false, .mx (.t 17) (.t 19)⟩,
  ⟨some 21, none, false, .fadr 1 (.t 3)⟩,
  ⟨some 22, none, false, .ldv 3 false 1 21⟩,
  ⟨some 23, none, false, .fadr 1 (.t 5)⟩,
  ⟨some 24, none, false, .ldv 5 false 1 23⟩,
  ⟨some 25, none, false, .mn (.t 22) (.t 24)⟩,
  ⟨some 26, none, false, .bld [(.int .i64 0), (.int .i64 0)] [(0, 1, (.t 20)), (1, 1, (.t 25))]⟩,
  ⟨none, none, false, .stv 3 [] 2 3 (.t 26)⟩]

def f_trial_meet_r6 : List Abs.Op := [
  ⟨some 27, none, false, .bin .add (.t 12) (.c (.int .i64 1))⟩,
  ⟨some 12, none, false, .mv (.t 27)⟩]

def f_trial_meet_l7 : Abs.Cmd :=
  (.seq (.reg [2, 3, 10, 11, 12, 13] f_trial_meet_r3) (.seq (.ite (.t 13) .nop (.exit 0)) (.seq (.blk 1 (.seq (.reg [2, 3, 5, 10, 11, 12] f_trial_meet_r4) (.reg [2, 3, 10, 11, 12] f_trial_meet_r5))) (.reg [2, 3, 10, 11, 12] f_trial_meet_r6))))

def f_trial_meet_r8 : List Abs.Op := [
  ⟨some 28, none, false, .ldv 3 true 2 3⟩,
  ⟨none, none, false, .stv 2 [] 2 2 (.t 28)⟩]

def a_trial_meet : Ann := ⟨[(7, [2]), (6, [2, 3, 10, 11, 12]), (5, [2, 3, 10, 11, 12]), (4, [2, 3, 5, 10, 11, 12]), (3, [2, 3, 10, 11, 12, 13]), (2, [2, 3, 10, 11, 12]), (1, [0, 2, 3]), (0, [0, 2])], [(0, [2, 3, 10, 11, 12])], [], [2, 3, 5], [2, 3, 5], [], [], [], [], []⟩
def f_trial_meet : Abs.Fn := ⟨1, [.v 2 true 2],
  (.seq (.reg [0, 2] f_trial_meet_r0) (.seq (.reg [0, 2, 3] f_trial_meet_r1) (.seq (.seq (.reg [2, 3, 10, 11, 12] f_trial_meet_r2) (.blk 0 (.loop [2, 3, 10, 11, 12] false f_trial_meet_l7))) (.seq (.reg [2] f_trial_meet_r8) .ret))))⟩

theorem e_trial_meet_r0 : type_of% f_trial_meet_r0.eq_1 := by_rfl f_trial_meet_r0.eq_1
theorem e_trial_meet_r1 : type_of% f_trial_meet_r1.eq_1 := by_rfl f_trial_meet_r1.eq_1
theorem e_trial_meet_r2 : type_of% f_trial_meet_r2.eq_1 := by_rfl f_trial_meet_r2.eq_1
theorem e_trial_meet_r3 : type_of% f_trial_meet_r3.eq_1 := by_rfl f_trial_meet_r3.eq_1
theorem e_trial_meet_r4 : type_of% f_trial_meet_r4.eq_1 := by_rfl f_trial_meet_r4.eq_1
theorem e_trial_meet_r5 : type_of% f_trial_meet_r5.eq_1 := by_rfl f_trial_meet_r5.eq_1
theorem e_trial_meet_r6 : type_of% f_trial_meet_r6.eq_1 := by_rfl f_trial_meet_r6.eq_1
theorem e_trial_meet_l7 : type_of% f_trial_meet_l7.eq_1 := by_rfl f_trial_meet_l7.eq_1
theorem e_trial_meet_r8 : type_of% f_trial_meet_r8.eq_1 := by_rfl f_trial_meet_r8.eq_1
theorem e_trial_meet : type_of% f_trial_meet.eq_1 := by_rfl f_trial_meet.eq_1
theorem ok_trial_meet : fnC Try.prog a_trial_meet Try.f106 = some f_trial_meet := by kernel_rfl

/-! 108 (fumarole/trial.Survey).apart -/
def f_trial_Survey_apart_r0 : List Abs.Op := [
  ⟨some 2, none, false, .boxi (.t 0)⟩,
  ⟨some 3, none, false, .boxi (.t 1)⟩,
  ⟨some 4, none, false, .mv (.c (.bool false))⟩]

def f_trial_Survey_apart_r1 : List Abs.Op := [
  ⟨some 5, none, false, .fadr 2 (.t 3)⟩,
  ⟨some 6, none, false, .fadr 1 (.t 5)⟩,
  ⟨some 7, none, false, .ld false 1 (.t 6)⟩,
  ⟨some 8, none, false, .fadr 1 (.t 2)⟩,
  ⟨some 9, none, false, .ld false 1 (.t 8)⟩,
  ⟨some 10, none, false, .bin .lss (.t 7) (.t 9)⟩,
  ⟨some 4, none, false, .mv (.t 10)⟩]

def a_trial_Survey_apart : Ann := ⟨[(1, [4]), (0, [2, 3])], [], [], [], [], [], [], [], [], []⟩
def f_trial_Survey_apart : Abs.Fn := ⟨2, [.t 4],
  (.seq (.reg [2, 3] f_trial_Survey_apart_r0) (.seq (.reg [4] f_trial_Survey_apart_r1) .ret))⟩

theorem e_trial_Survey_apart_r0 : type_of% f_trial_Survey_apart_r0.eq_1 := by_rfl f_trial_Survey_apart_r0.eq_1
theorem e_trial_Survey_apart_r1 : type_of% f_trial_Survey_apart_r1.eq_1 := by_rfl f_trial_Survey_apart_r1.eq_1
theorem e_trial_Survey_apart : type_of% f_trial_Survey_apart.eq_1 := by_rfl f_trial_Survey_apart.eq_1
theorem ok_trial_Survey_apart : fnC Try.prog a_trial_Survey_apart Try.f108 = some f_trial_Survey_apart := by kernel_rfl

/-! 109 slices.IndexFunc[[]int,int] -/
def f_slices_IndexFunc_int_r0 : List Abs.Op := [
  ⟨some 4, none, false, .mv (.c (.int .i64 0))⟩]

def f_slices_IndexFunc_int_r1 : List Abs.Op := [
  ⟨some 6, none, false, .mv (.t 0)⟩,
  ⟨some 7, none, false, .lenS (.t 6)⟩,
  ⟨some 8, none, false, .mv (.c (.int .i64 0))⟩]

def f_slices_IndexFunc_int_r2 : List Abs.Op := [
  ⟨some 9, none, false, .bin .lss (.t 8) (.t 7)⟩]

def f_slices_IndexFunc_int_r3 : List Abs.Op := [
  ⟨some 10, none, false, .mv (.t 8)⟩,
  ⟨some 5, none, false, .mv (.t 10)⟩]

def f_slices_IndexFunc_int_r4 : List Abs.Op := [
  ⟨some 11, none, false, .mv (.t 1)⟩,
  ⟨some 12, none, false, .mv (.t 0)⟩,
  ⟨some 13, none, false, .mv (.t 5)⟩,
  ⟨some 14, none, false, .idxS 1 (.t 12) (.t 13)⟩,
  ⟨some 15, none, false, .ld false 1 (.t 14)⟩,
  ⟨some 16, none, false, .call false (.t 11) [(.t 15)]⟩]

def f_slices_IndexFunc_int_r5 : List Abs.Op := [
  ⟨some 17, none, false, .mv (.t 5)⟩,
  ⟨some 4, none, false, .mv (.t 17)⟩]

def f_slices_IndexFunc_int_r6 : List Abs.Op := [
  ⟨some 18, none, false, .bin .add (.t 8) (.c (.int .i64 1))⟩,
  ⟨some 8, none, false, .mv (.t 18)⟩]

def f_slices_IndexFunc_int_l7 : Abs.Cmd :=
  (.seq (.reg [0, 1, 7, 8, 9] f_slices_IndexFunc_int_r2) (.seq (.ite (.t 9) .nop (.exit 0)) (.seq (.blk 1 (.seq (.reg [0, 1, 5, 7, 8] f_slices_IndexFunc_int_r3) (.seq (.reg [0, 1, 5, 7, 8, 16] f_slices_IndexFunc_int_r4) (.ite (.t 16) (.seq (.reg [4] f_slices_IndexFunc_int_r5) .ret) .nop)))) (.reg [0, 1, 7, 8] f_slices_IndexFunc_int_r6))))

def f_slices_IndexFunc_int_r8 : List Abs.Op := [
  ⟨some 4, none, false, .mv (.c (.int .i64 (-1)))⟩]

def a_slices_IndexFunc_int : Ann := ⟨[(7, [4]), (6, [0, 1, 7, 8]), (5, [4]), (4, [0, 1, 5, 7, 8, 16]), (3, [0, 1, 5, 7, 8]), (2, [0, 1, 7, 8, 9]), (1, [0, 1, 7, 8]), (0, [0, 1])], [(0, [0, 1, 7, 8])], [], [], [], [], [], [], [], []⟩
def f_slices_IndexFunc_int : Abs.Fn := ⟨2, [.t 4],
  (.seq (.reg [0, 1] f_slices_IndexFunc_int_r0) (.seq (.seq (.reg [0, 1, 7, 8] f_slices_IndexFunc_int_r1) (.blk 0 (.loop [0, 1, 7, 8] false f_slices_IndexFunc_int_l7))) (.seq (.reg [4] f_slices_IndexFunc_int_r8) .ret)))⟩

theorem e_slices_IndexFunc_int_r0 : type_of% f_slices_IndexFunc_int_r0.eq_1 := by_rfl f_slices_IndexFunc_int_r0.eq_1
theorem e_slices_IndexFunc_int_r1 : type_of% f_slices_IndexFunc_int_r1.eq_1 := by_rfl f_slices_IndexFunc_int_r1.eq_1
theorem e_slices_IndexFunc_int_r2 : type_of% f_slices_IndexFunc_int_r2.eq_1 := by_rfl f_slices_IndexFunc_int_r2.eq_1
theorem e_slices_IndexFunc_int_r3 : type_of% f_slices_IndexFunc_int_r3.eq_1 := by_rfl f_slices_IndexFunc_int_r3.eq_1
theorem e_slices_IndexFunc_int_r4 : type_of% f_slices_IndexFunc_int_r4.eq_1 := by_rfl f_slices_IndexFunc_int_r4.eq_1
theorem e_slices_IndexFunc_int_r5 : type_of% f_slices_IndexFunc_int_r5.eq_1 := by_rfl f_slices_IndexFunc_int_r5.eq_1
theorem e_slices_IndexFunc_int_r6 : type_of% f_slices_IndexFunc_int_r6.eq_1 := by_rfl f_slices_IndexFunc_int_r6.eq_1
theorem e_slices_IndexFunc_int_l7 : type_of% f_slices_IndexFunc_int_l7.eq_1 := by_rfl f_slices_IndexFunc_int_l7.eq_1
theorem e_slices_IndexFunc_int_r8 : type_of% f_slices_IndexFunc_int_r8.eq_1 := by_rfl f_slices_IndexFunc_int_r8.eq_1
theorem e_slices_IndexFunc_int : type_of% f_slices_IndexFunc_int.eq_1 := by_rfl f_slices_IndexFunc_int.eq_1
theorem ok_slices_IndexFunc_int : fnC Try.prog a_slices_IndexFunc_int Try.f109 = some f_slices_IndexFunc_int := by kernel_rfl

/-! 110 (fumarole/trial.Test).rooms$1 -/
def f_trial_Test_rooms_1_r0 : List Abs.Op := [
  ⟨some 10, none, false, .fadr 2 (.t 1)⟩,
  ⟨some 11, none, false, .fadr 0 (.t 10)⟩,
  ⟨some 12, none, false, .ld false 1 (.t 11)⟩,
  ⟨some 3, none, false, .mv (.t 12)⟩]

def f_trial_Test_rooms_1_r1 : List Abs.Op := [
  ⟨some 13, none, false, .mv (.t 3)⟩,
  ⟨some 14, none, false, .fadr 2 (.t 1)⟩,
  ⟨some 15, none, false, .fadr 1 (.t 14)⟩,
  ⟨some 16, none, false, .ld false 1 (.t 15)⟩,
  ⟨some 17, none, false, .bin .leq (.t 13) (.t 16)⟩]

def f_trial_Test_rooms_1_r2 : List Abs.Op := [
  ⟨some 20, none, false, .fadr 4 (.t 1)⟩,
  ⟨some 21, none, false, .fadr 0 (.t 20)⟩,
  ⟨some 22, none, false, .ld false 1 (.t 21)⟩,
  ⟨some 4, none, false, .mv (.t 22)⟩]

def f_trial_Test_rooms_1_r3 : List Abs.Op := [
  ⟨some 23, none, false, .mv (.t 4)⟩,
  ⟨some 24, none, false, .fadr 4 (.t 1)⟩,
  ⟨some 25, none, false, .fadr 1 (.t 24)⟩,
  ⟨some 26, none, false, .ld false 1 (.t 25)⟩,
  ⟨some 27, none, false, .bin .leq (.t 23) (.t 26)⟩]

def f_trial_Test_rooms_1_r4 : List Abs.Op := [
  ⟨some 30, none, false, .mv (.t 3)⟩,
  ⟨some 31, none, false, .mv (.t 4)⟩,
  ⟨some 32, none, false, .bld [(.int .i64 0), (.int .i64 0), (.int .i64 0)] [(0, 1, (.c (.int .i64 0))), (1, 1, (.t 30)), (2, 1, (.t 31))]⟩,
  ⟨some 5, none, false, .alc [] [(.int .i64 0), (.int .i64 0), (.int .i64 0)]⟩,
  ⟨none, none, false, .st [] 3 (.t 5) (.t 32)⟩]

def f_trial_Test_rooms_1_r5 : List Abs.Op := [
  ⟨some 33, none, false, .mkf i_trial_Test_rooms_1_1 [] [(.t 5)]⟩,
  ⟨some 6, none, false, .mv (.t 33)⟩]

def f_trial_Test_rooms_1_r6 : List Abs.Op := [
  ⟨some 34, none, false, .fadr 0 (.t 1)⟩,
  ⟨some 35, none, false, .ld true 2 (.t 34)⟩,
  ⟨some 36, none, false, .bsm 1 2 [(.int .i64 0), (.int .i64 0)] [(0, 2, (.t 35))]⟩,
  ⟨some 7, none, false, .mv (.t 36)⟩]

def f_trial_Test_rooms_1_r7 : List Abs.Op := [
  ⟨some 37, none, false, .fadr 6 (.t 1)⟩,
  ⟨some 38, none, false, .ld false 1 (.t 37)⟩,
  ⟨some 39, none, false, .lenS (.t 38)⟩,
  ⟨some 40, none, false, .mv (.c (.int .i64 0))⟩]

def f_trial_Test_rooms_1_r8 : List Abs.Op := [
  ⟨some 41, none, false, .bin .lss (.t 40) (.t 39)⟩]

def f_trial_Test_rooms_1_r9 : List Abs.Op := [
  ⟨some 42, none, false, .idxS 3 (.t 38) (.t 40)⟩,
  ⟨some 43, none, false, .ld true 3 (.t 42)⟩,
  ⟨some 9, none, false, .alcv [] [(.int .i64 0), (.int .i64 0), (.int .i64 0)]⟩,
  ⟨none, none, false, .stv 9 [] 3 9 (.t 43)⟩]

def f_trial_Test_rooms_1_r10 : List Abs.Op := [
  ⟨some 44, none, false, .mv (.t 7)⟩,
  ⟨some 45, none, false, .mv (.t 6)⟩,
  ⟨some 46, none, false, .ldv 9 true 3 9⟩,
  ⟨some 47, none, false, .call false (.t 45) [(.t 46)]⟩,
  ⟨some 48, none, false, .bsi 1 2 [(.int .i64 0), (.int .i64 0)] [(0, 2, (.t 47))]⟩,
  ⟨some 49, none, false, .app 2 16 (.t 44) (.t 48)⟩,
  ⟨some 7, none, false, .mv (.t 49)⟩]

def f_trial_Test_rooms_1_r11 : List Abs.Op := [
  ⟨some 50, none, false, .bin .add (.t 40) (.c (.int .i64 1))⟩,
  ⟨some 40, none, false, .mv (.t 50)⟩]

def f_trial_Test_rooms_1_l12 : Abs.Cmd :=
  (.seq (.reg [0, 1, 3, 4, 5, 6, 7, 38, 39, 40, 41] f_trial_Test_rooms_1_r8) (.seq (.ite (.t 41) .nop (.exit 4)) (.seq (.blk 5 (.seq (.reg [0, 1, 3, 4, 5, 6, 7, 9, 38, 39, 40] f_trial_Test_rooms_1_r9) (.reg [0, 1, 3, 4, 5, 6, 7, 38, 39, 40] f_trial_Test_rooms_1_r10))) (.reg [0, 1, 3, 4, 5, 6, 7, 38, 39, 40] f_trial_Test_rooms_1_r11))))

def f_trial_Test_rooms_1_r13 : List Abs.Op := [
  ⟨some 51, none, false, .mv (.t 0)⟩,
  ⟨some 52, none, false, .ld true 3 (.t 5)⟩,
  ⟨some 53, none, false, .mv (.t 7)⟩,
  ⟨some 54, none, false, .call false (.t 51) [(.t 52), (.t 53)]⟩,
  ⟨some 55, none, false, .un .not (.t 54)⟩]

def f_trial_Test_rooms_1_r14 : List Abs.Op := [
  ⟨some 28, none, false, .mv (.t 4)⟩,
  ⟨some 29, none, false, .bin .add (.t 28) (.c (.int .i64 1))⟩,
  ⟨some 4, none, false, .mv (.t 29)⟩]

def f_trial_Test_rooms_1_l15 : Abs.Cmd :=
  (.seq (.seq (.reg [0, 1, 3, 4, 27] f_trial_Test_rooms_1_r3) (.ite (.t 27) .nop (.exit 2))) (.seq (.blk 3 (.seq (.reg [0, 1, 3, 4, 5] f_trial_Test_rooms_1_r4) (.seq (.reg [0, 1, 3, 4, 5, 6] f_trial_Test_rooms_1_r5) (.seq (.reg [0, 1, 3, 4, 5, 6, 7] f_trial_Test_rooms_1_r6) (.seq (.seq (.reg [0, 1, 3, 4, 5, 6, 7, 38, 39, 40] f_trial_Test_rooms_1_r7) (.blk 4 (.loop [0, 1, 3, 4, 5, 6, 7, 38, 39, 40] false f_trial_Test_rooms_1_l12))) (.seq (.seq (.frz [7]) (.reg [0, 1, 3, 4, 55] f_trial_Test_rooms_1_r13)) (.ite (.t 55) .ret .nop))))))) (.reg [0, 1, 3, 4] f_trial_Test_rooms_1_r14)))

def f_trial_Test_rooms_1_r16 : List Abs.Op := [
  ⟨some 18, none, false, .mv (.t 3)⟩,
  ⟨some 19, none, false, .bin .add (.t 18) (.c (.int .i64 1))⟩,
  ⟨some 3, none, false, .mv (.t 19)⟩]

def f_trial_Test_rooms_1_l17 : Abs.Cmd :=
  (.seq (.seq (.reg [0, 1, 3, 17] f_trial_Test_rooms_1_r1) (.ite (.t 17) .nop (.exit 0))) (.seq (.blk 1 (.seq (.reg [0, 1, 3, 4] f_trial_Test_rooms_1_r2) (.blk 2 (.loop [0, 1, 3, 4] true f_trial_Test_rooms_1_l15)))) (.reg [0, 1, 3] f_trial_Test_rooms_1_r16)))

def a_trial_Test_rooms_1 : Ann := ⟨[(2, [0, 1, 3]), (5, [0, 1, 3, 4]), (14, [0, 1, 3, 4, 55]), (13, [0, 1, 3, 4, 5, 6, 7, 38, 39, 40]), (12, [0, 1, 3, 4, 5, 6, 7, 38, 39, 40]), (11, [0, 1, 3, 4, 5, 6, 7, 9, 38, 39, 40]), (10, [0, 1, 3, 4, 5, 6, 7, 38, 39, 40, 41]), (9, [0, 1, 3, 4, 5, 6, 7, 38, 39, 40]), (8, [0, 1, 3, 4, 5, 6, 7]), (7, [0, 1, 3, 4, 5, 6]), (6, [0, 1, 3, 4, 5]), (4, [0, 1, 3, 4, 27]), (3, [0, 1, 3, 4]), (1, [0, 1, 3, 17]), (0, [0, 1, 3])], [(4, [0, 1, 3, 4, 5, 6, 7, 38, 39, 40]), (2, [0, 1, 3, 4]), (0, [0, 1, 3])], [2, 0], [5, 9, 36], [9], [], [], [(14, [7])], [], []⟩
def f_trial_Test_rooms_1 : Abs.Fn := ⟨2, [],
  (.seq (.reg [0, 1, 3] f_trial_Test_rooms_1_r0) (.blk 0 (.loop [0, 1, 3] true f_trial_Test_rooms_1_l17)))⟩

theorem e_trial_Test_rooms_1_r0 : type_of% f_trial_Test_rooms_1_r0.eq_1 := by_rfl f_trial_Test_rooms_1_r0.eq_1
theorem e_trial_Test_rooms_1_r1 : type_of% f_trial_Test_rooms_1_r1.eq_1 := by_rfl f_trial_Test_rooms_1_r1.eq_1
theorem e_trial_Test_rooms_1_r2 : type_of% f_trial_Test_rooms_1_r2.eq_1 := by_rfl f_trial_Test_rooms_1_r2.eq_1
theorem e_trial_Test_rooms_1_r3 : type_of% f_trial_Test_rooms_1_r3.eq_1 := by_rfl f_trial_Test_rooms_1_r3.eq_1
theorem e_trial_Test_rooms_1_r4 : type_of% f_trial_Test_rooms_1_r4.eq_1 := by_rfl f_trial_Test_rooms_1_r4.eq_1
theorem e_trial_Test_rooms_1_r5 : type_of% f_trial_Test_rooms_1_r5.eq_1 := by_rfl f_trial_Test_rooms_1_r5.eq_1
theorem e_trial_Test_rooms_1_r6 : type_of% f_trial_Test_rooms_1_r6.eq_1 := by_rfl f_trial_Test_rooms_1_r6.eq_1
theorem e_trial_Test_rooms_1_r7 : type_of% f_trial_Test_rooms_1_r7.eq_1 := by_rfl f_trial_Test_rooms_1_r7.eq_1
theorem e_trial_Test_rooms_1_r8 : type_of% f_trial_Test_rooms_1_r8.eq_1 := by_rfl f_trial_Test_rooms_1_r8.eq_1
theorem e_trial_Test_rooms_1_r9 : type_of% f_trial_Test_rooms_1_r9.eq_1 := by_rfl f_trial_Test_rooms_1_r9.eq_1
theorem e_trial_Test_rooms_1_r10 : type_of% f_trial_Test_rooms_1_r10.eq_1 := by_rfl f_trial_Test_rooms_1_r10.eq_1
theorem e_trial_Test_rooms_1_r11 : type_of% f_trial_Test_rooms_1_r11.eq_1 := by_rfl f_trial_Test_rooms_1_r11.eq_1
theorem e_trial_Test_rooms_1_l12 : type_of% f_trial_Test_rooms_1_l12.eq_1 := by_rfl f_trial_Test_rooms_1_l12.eq_1
theorem e_trial_Test_rooms_1_r13 : type_of% f_trial_Test_rooms_1_r13.eq_1 := by_rfl f_trial_Test_rooms_1_r13.eq_1
theorem e_trial_Test_rooms_1_r14 : type_of% f_trial_Test_rooms_1_r14.eq_1 := by_rfl f_trial_Test_rooms_1_r14.eq_1
theorem e_trial_Test_rooms_1_l15 : type_of% f_trial_Test_rooms_1_l15.eq_1 := by_rfl f_trial_Test_rooms_1_l15.eq_1
theorem e_trial_Test_rooms_1_r16 : type_of% f_trial_Test_rooms_1_r16.eq_1 := by_rfl f_trial_Test_rooms_1_r16.eq_1
theorem e_trial_Test_rooms_1_l17 : type_of% f_trial_Test_rooms_1_l17.eq_1 := by_rfl f_trial_Test_rooms_1_l17.eq_1
theorem e_trial_Test_rooms_1 : type_of% f_trial_Test_rooms_1.eq_1 := by_rfl f_trial_Test_rooms_1.eq_1
theorem ok_trial_Test_rooms_1 : fnC Try.prog a_trial_Test_rooms_1 Try.f110 = some f_trial_Test_rooms_1 := by kernel_rfl

/-! 111 (fumarole/trial.Test).rooms$1$1 -/
def f_trial_Test_rooms_1_1_r0 : List Abs.Op := [
  ⟨some 2, none, false, .boxi (.t 0)⟩,
  ⟨some 3, none, false, .alcv [] [(.int .i64 0), (.int .i64 0)]⟩]

def f_trial_Test_rooms_1_1_r1 : List Abs.Op := [
  ⟨some 4, none, true, .fadr 1 (.t 2)⟩,
  ⟨some 5, none, true, .ld true 2 (.t 4)⟩,
  ⟨some 6, none, true, .ld true 3 (.t 1)⟩,
  ⟨some 7, none, true, .fadr 0 (.t 2)⟩,
  ⟨some 8, none, true, .ld false 1 (.t 7)⟩,
  ⟨some 9, none, true, .call false (.c (.fn i_trial_Curve_drop [] [])) [(.t 6), (.t 8)]⟩,
  ⟨some 10, none, false, .call false (.c (.fn i_trial_Range_less [] [])) [(.t 5), (.t 9)]⟩,
  ⟨none, none, false, .stv 3 [] 2 3 (.t 10)⟩]

def a_trial_Test_rooms_1_1 : Ann := ⟨[(1, [3]), (0, [1, 2, 3])], [], [], [3], [3], [], [], [], [], []⟩
def f_trial_Test_rooms_1_1 : Abs.Fn := ⟨2, [.v 3 true 2],
  (.seq (.reg [1, 2, 3] f_trial_Test_rooms_1_1_r0) (.seq (.reg [3] f_trial_Test_rooms_1_1_r1) .ret))⟩

theorem e_trial_Test_rooms_1_1_r0 : type_of% f_trial_Test_rooms_1_1_r0.eq_1 := by_rfl f_trial_Test_rooms_1_1_r0.eq_1
theorem e_trial_Test_rooms_1_1_r1 : type_of% f_trial_Test_rooms_1_1_r1.eq_1 := by_rfl f_trial_Test_rooms_1_1_r1.eq_1
theorem e_trial_Test_rooms_1_1 : type_of% f_trial_Test_rooms_1_1.eq_1 := by_rfl f_trial_Test_rooms_1_1.eq_1
theorem ok_trial_Test_rooms_1_1 : fnC Try.prog a_trial_Test_rooms_1_1 Try.f111 = some f_trial_Test_rooms_1_1 := by kernel_rfl

/-! 112 (fumarole/trial.Survey).joined -/
def f_trial_Survey_joined_r0 : List Abs.Op := [
  ⟨some 2, none, false, .boxi (.t 0)⟩,
  ⟨some 3, none, false, .boxi (.t 1)⟩,
  ⟨some 4, none, false, .mv (.c (.bool false))⟩]

def f_trial_Survey_joined_r1 : List Abs.Op := [
  ⟨some 5, none, false, .fadr 2 (.t 3)⟩,
  ⟨some 6, none, false, .fadr 0 (.t 5)⟩,
  ⟨some 7, none, false, .ld false 1 (.t 6)⟩,
  ⟨some 8, none, false, .fadr 1 (.t 2)⟩,
  ⟨some 9, none, false, .ld false 1 (.t 8)⟩,
  ⟨some 10, none, false, .bin .geq (.t 7) (.t 9)⟩,
  ⟨some 4, none, false, .mv (.t 10)⟩]

def a_trial_Survey_joined : Ann := ⟨[(1, [4]), (0, [2, 3])], [], [], [], [], [], [], [], [], []⟩
def f_trial_Survey_joined : Abs.Fn := ⟨2, [.t 4],
  (.seq (.reg [2, 3] f_trial_Survey_joined_r0) (.seq (.reg [4] f_trial_Survey_joined_r1) .ret))⟩

theorem e_trial_Survey_joined_r0 : type_of% f_trial_Survey_joined_r0.eq_1 := by_rfl f_trial_Survey_joined_r0.eq_1
theorem e_trial_Survey_joined_r1 : type_of% f_trial_Survey_joined_r1.eq_1 := by_rfl f_trial_Survey_joined_r1.eq_1
theorem e_trial_Survey_joined : type_of% f_trial_Survey_joined.eq_1 := by_rfl f_trial_Survey_joined.eq_1
theorem ok_trial_Survey_joined : fnC Try.prog a_trial_Survey_joined Try.f112 = some f_trial_Survey_joined := by kernel_rfl

/-! 113 slices.IndexFunc[[]fumarole/trial.Seen,fumarole/trial.Seen] -/
def f_slices_IndexFunc_trial_Seen_r0 : List Abs.Op := [
  ⟨some 4, none, false, .mv (.c (.int .i64 0))⟩]

def f_slices_IndexFunc_trial_Seen_r1 : List Abs.Op := [
  ⟨some 6, none, false, .mv (.t 0)⟩,
  ⟨some 7, none, false, .lenS (.t 6)⟩,
  ⟨some 8, none, false, .mv (.c (.int .i64 0))⟩]

def f_slices_IndexFunc_trial_Seen_r2 : List Abs.Op := [
  ⟨some 9, none, false, .bin .lss (.t 8) (.t 7)⟩]

def f_slices_IndexFunc_trial_Seen_r3 : List Abs.Op := [
  ⟨some 10, none, false, .mv (.t 8)⟩,
  ⟨some 5, none, false, .mv (.t 10)⟩]

def f_slices_IndexFunc_trial_Seen_r4 : List Abs.Op := [
  ⟨some 11, none, false, .mv (.t 1)⟩,
  ⟨some 12, none, false, .mv (.t 0)⟩,
  ⟨some 13, none, false, .mv (.t 5)⟩,
  ⟨some 14, none, false, .idxS 4 (.t 12) (.t 13)⟩,
  ⟨some 15, none, false, .ld true 4 (.t 14)⟩,
  ⟨some 16, none, false, .call false (.t 11) [(.t 15)]⟩]

def f_slices_IndexFunc_trial_Seen_r5 : List Abs.Op := [
  ⟨some 17, none, false, .mv (.t 5)⟩,
  ⟨some 4, none, false, .mv (.t 17)⟩]

def f_slices_IndexFunc_trial_Seen_r6 : List Abs.Op := [
  ⟨some 18, none, false, .bin .add (.t 8) (.c (.int .i64 1))⟩,
  ⟨some 8, none, false, .mv (.t 18)⟩]

def f_slices_IndexFunc_trial_Seen_l7 : Abs.Cmd :=
  (.seq (.reg [0, 1, 7, 8, 9] f_slices_IndexFunc_trial_Seen_r2) (.seq (.ite (.t 9) .nop (.exit 0)) (.seq (.blk 1 (.seq (.reg [0, 1, 5, 7, 8] f_slices_IndexFunc_trial_Seen_r3) (.seq (.reg [0, 1, 5, 7, 8, 16] f_slices_IndexFunc_trial_Seen_r4) (.ite (.t 16) (.seq (.reg [4] f_slices_IndexFunc_trial_Seen_r5) .ret) .nop)))) (.reg [0, 1, 7, 8] f_slices_IndexFunc_trial_Seen_r6))))

def f_slices_IndexFunc_trial_Seen_r8 : List Abs.Op := [
  ⟨some 4, none, false, .mv (.c (.int .i64 (-1)))⟩]

def a_slices_IndexFunc_trial_Seen : Ann := ⟨[(7, [4]), (6, [0, 1, 7, 8]), (5, [4]), (4, [0, 1, 5, 7, 8, 16]), (3, [0, 1, 5, 7, 8]), (2, [0, 1, 7, 8, 9]), (1, [0, 1, 7, 8]), (0, [0, 1])], [(0, [0, 1, 7, 8])], [], [], [], [], [], [], [], []⟩
def f_slices_IndexFunc_trial_Seen : Abs.Fn := ⟨2, [.t 4],
  (.seq (.reg [0, 1] f_slices_IndexFunc_trial_Seen_r0) (.seq (.seq (.reg [0, 1, 7, 8] f_slices_IndexFunc_trial_Seen_r1) (.blk 0 (.loop [0, 1, 7, 8] false f_slices_IndexFunc_trial_Seen_l7))) (.seq (.reg [4] f_slices_IndexFunc_trial_Seen_r8) .ret)))⟩

theorem e_slices_IndexFunc_trial_Seen_r0 : type_of% f_slices_IndexFunc_trial_Seen_r0.eq_1 := by_rfl f_slices_IndexFunc_trial_Seen_r0.eq_1
theorem e_slices_IndexFunc_trial_Seen_r1 : type_of% f_slices_IndexFunc_trial_Seen_r1.eq_1 := by_rfl f_slices_IndexFunc_trial_Seen_r1.eq_1
theorem e_slices_IndexFunc_trial_Seen_r2 : type_of% f_slices_IndexFunc_trial_Seen_r2.eq_1 := by_rfl f_slices_IndexFunc_trial_Seen_r2.eq_1
theorem e_slices_IndexFunc_trial_Seen_r3 : type_of% f_slices_IndexFunc_trial_Seen_r3.eq_1 := by_rfl f_slices_IndexFunc_trial_Seen_r3.eq_1
theorem e_slices_IndexFunc_trial_Seen_r4 : type_of% f_slices_IndexFunc_trial_Seen_r4.eq_1 := by_rfl f_slices_IndexFunc_trial_Seen_r4.eq_1
theorem e_slices_IndexFunc_trial_Seen_r5 : type_of% f_slices_IndexFunc_trial_Seen_r5.eq_1 := by_rfl f_slices_IndexFunc_trial_Seen_r5.eq_1
theorem e_slices_IndexFunc_trial_Seen_r6 : type_of% f_slices_IndexFunc_trial_Seen_r6.eq_1 := by_rfl f_slices_IndexFunc_trial_Seen_r6.eq_1
theorem e_slices_IndexFunc_trial_Seen_l7 : type_of% f_slices_IndexFunc_trial_Seen_l7.eq_1 := by_rfl f_slices_IndexFunc_trial_Seen_l7.eq_1
theorem e_slices_IndexFunc_trial_Seen_r8 : type_of% f_slices_IndexFunc_trial_Seen_r8.eq_1 := by_rfl f_slices_IndexFunc_trial_Seen_r8.eq_1
theorem e_slices_IndexFunc_trial_Seen : type_of% f_slices_IndexFunc_trial_Seen.eq_1 := by_rfl f_slices_IndexFunc_trial_Seen.eq_1
theorem ok_slices_IndexFunc_trial_Seen : fnC Try.prog a_slices_IndexFunc_trial_Seen Try.f113 = some f_slices_IndexFunc_trial_Seen := by kernel_rfl

/-! 114 (fumarole/trial.parted).clash$1 -/
def f_trial_parted_clash_1_r0 : List Abs.Op := [
  ⟨some 2, none, false, .boxi (.t 0)⟩,
  ⟨some 3, none, false, .mv (.c (.bool false))⟩]

def f_trial_parted_clash_1_r1 : List Abs.Op := [
  ⟨some 4, none, true, .fadr 0 (.t 1)⟩,
  ⟨some 5, none, true, .ld true 3 (.t 4)⟩,
  ⟨some 6, none, true, .ld true 4 (.t 2)⟩,
  ⟨some 7, none, true, .call false (.c (.fn i_trial_Survey_apart [] [])) [(.t 5), (.t 6)]⟩,
  ⟨some 8, none, true, .mv (.t 7)⟩,
  ⟨some 9, some (8, true), true, .fadr 0 (.t 2)⟩,
  ⟨some 10, some (8, true), true, .ld false 1 (.t 9)⟩,
  ⟨some 11, some (8, true), true, .fadr 3 (.t 1)⟩,
  ⟨some 12, some (8, true), true, .idxA 10 1 (.t 11) (.t 10)⟩,
  ⟨some 13, some (8, true), true, .ld false 1 (.t 12)⟩,
  ⟨some 14, some (8, true), true, .fadr 1 (.t 2)⟩,
  ⟨some 15, some (8, true), true, .ld false 1 (.t 14)⟩,
  ⟨some 16, some (8, true), true, .fadr 3 (.t 1)⟩,
  ⟨some 17, some (8, true), true, .idxA 10 1 (.t 16) (.t 15)⟩,
  ⟨some 18, some (8, true), true, .ld false 1 (.t 17)⟩,
  ⟨some 19, some (8, true), false, .bin .eql (.t 13) (.t 18)⟩,
  ⟨some 20, none, false, .pick (.t 8) (.t 19) (.c (.bool false))⟩,
  ⟨some 3, none, false, .mv (.t 20)⟩]

def a_trial_parted_clash_1 : Ann := ⟨[(1, [3]), (0, [1, 2])], [], [], [], [], [], [], [], [], []⟩
def f_trial_parted_clash_1 : Abs.Fn := ⟨2, [.t 3],
  (.seq (.reg [1, 2] f_trial_parted_clash_1_r0) (.seq (.reg [3] f_trial_parted_clash_1_r1) .ret))⟩

theorem e_trial_parted_clash_1_r0 : type_of% f_trial_parted_clash_1_r0.eq_1 := by_rfl f_trial_parted_clash_1_r0.eq_1
theorem e_trial_parted_clash_1_r1 : type_of% f_trial_parted_clash_1_r1.eq_1 := by_rfl f_trial_parted_clash_1_r1.eq_1
theorem e_trial_parted_clash_1 : type_of% f_trial_parted_clash_1.eq_1 := by_rfl f_trial_parted_clash_1.eq_1
theorem ok_trial_parted_clash_1 : fnC Try.prog a_trial_parted_clash_1 Try.f114 = some f_trial_parted_clash_1 := by kernel_rfl

/-! 115 (fumarole/trial.Survey).near -/
def f_trial_Survey_near_r0 : List Abs.Op := [
  ⟨some 2, none, false, .boxi (.t 0)⟩,
  ⟨some 4, none, false, .mv (.c .nils)⟩]

def f_trial_Survey_near_r1 : List Abs.Op := [
  ⟨some 5, none, false, .nilb 1⟩]

def f_trial_Survey_near_r2 : List Abs.Op := [
  ⟨some 8, none, false, .fadr 2 (.t 2)⟩,
  ⟨some 9, none, false, .ld false 1 (.t 8)⟩,
  ⟨some 10, none, false, .lenS (.t 9)⟩,
  ⟨some 11, none, false, .mv (.c (.int .i64 0))⟩]

def f_trial_Survey_near_r3 : List Abs.Op := [
  ⟨some 12, none, false, .bin .lss (.t 11) (.t 10)⟩]

def f_trial_Survey_near_r4 : List Abs.Op := [
  ⟨some 13, none, false, .idxS 4 (.t 9) (.t 11)⟩,
  ⟨some 14, none, false, .ld true 4 (.t 13)⟩,
  ⟨some 7, none, false, .alcv [] [(.int .i64 0), (.int .i64 0), (.int .i64 0), (.int .i64 0)]⟩,
  ⟨none, none, false, .stv 7 [] 4 7 (.t 14)⟩]

def f_trial_Survey_near_r5 : List Abs.Op := [
  ⟨some 15, none, false, .ld true 3 (.t 2)⟩,
  ⟨some 16, none, false, .ldv 7 true 4 7⟩,
  ⟨some 17, none, false, .call false (.c (.fn i_trial_Survey_joined [] [])) [(.t 15), (.t 16)]⟩,
  ⟨some 18, none, false, .mv (.t 17)⟩,
  ⟨some 19, some (18, true), false, .fadr 0 (.t 7)⟩,
  ⟨some 20, some (18, true), false, .ldv 7 false 1 19⟩,
  ⟨some 21, some (18, true), false, .mv (.t 1)⟩,
  ⟨some 22, some (18, true), false, .bin .eql (.t 20) (.t 21)⟩,
  ⟨some 23, none, false, .pick (.t 18) (.t 22) (.c (.bool false))⟩]

def f_trial_Survey_near_r6 : List Abs.Op := [
  ⟨some 24, none, false, .mv (.t 5)⟩,
  ⟨some 25, none, false, .fadr 1 (.t 7)⟩,
  ⟨some 26, none, false, .ldv 7 false 1 25⟩,
  ⟨some 27, none, false, .bsi 1 1 [(.int .i64 0)] [(0, 1, (.t 26))]⟩,
  ⟨some 28, none, false, .app 1 8 (.t 24) (.t 27)⟩,
  ⟨some 5, none, false, .mv (.t 28)⟩]

def f_trial_Survey_near_r7 : List Abs.Op := [
  ⟨some 29, none, false, .ld true 3 (.t 2)⟩,
  ⟨some 30, none, false, .ldv 7 true 4 7⟩,
  ⟨some 31, none, false, .call false (.c (.fn i_trial_Survey_joined [] [])) [(.t 29), (.t 30)]⟩,
  ⟨some 32, none, false, .mv (.t 31)⟩,
  ⟨some 33, some (32, true), false, .fadr 1 (.t 7)⟩,
  ⟨some 34, some (32, true), false, .ldv 7 false 1 33⟩,
  ⟨some 35, some (32, true), false, .mv (.t 1)⟩,
  ⟨some 36, some (32, true), false, .bin .eql (.t 34) (.t 35)⟩,
  ⟨some 37, none, false, .pick (.t 32) (.t 36) (.c (.bool false))⟩]

def f_trial_Survey_near_r8 : List Abs.Op := [
  ⟨some 38, none, false, .mv (.t 5)⟩,
  ⟨some 39, none, false, .fadr 0 (.t 7)⟩,
  ⟨some 40, none, false, .ldv 7 false 1 39⟩,
  ⟨some 41, none, false, .bsi 1 1 [(.int .i64 0)] [(0, 1, (.t 40))]⟩,
  ⟨some 42, none, false, .app 1 8 (.t 38) (.t 41)⟩,
  ⟨some 5, none, false, .mv (.t 42)⟩]

def f_trial_Survey_near_r9 : List Abs.Op := [
  ⟨some 43, none, false, .bin .add (.t 11) (.c (.int .i64 1))⟩,
  ⟨some 11, none, false, .mv (.t 43)⟩]

def f_trial_Survey_near_l10 : Abs.Cmd :=
  (.seq (.reg [1, 2, 5, 9, 10, 11, 12] f_trial_Survey_near_r3) (.seq (.ite (.t 12) .nop (.exit 0)) (.seq (.blk 1 (.seq (.reg [1, 2, 5, 7, 9, 10, 11] f_trial_Survey_near_r4) (.seq (.reg [1, 2, 5, 7, 9, 10, 11, 23] f_trial_Survey_near_r5) (.ite (.t 23) (.reg [1, 2, 5, 9, 10, 11] f_trial_Survey_near_r6) (.seq (.reg [1, 2, 5, 7, 9, 10, 11, 37] f_trial_Survey_near_r7) (.ite (.t 37) (.reg [1, 2, 5, 9, 10, 11] f_trial_Survey_near_r8) .nop)))))) (.reg [1, 2, 5, 9, 10, 11] f_trial_Survey_near_r9))))

def f_trial_Survey_near_r11 : List Abs.Op := [
  ⟨some 44, none, false, .mv (.t 5)⟩,
  ⟨some 45, none, false, .call false (.c (.fn i_slices_Sort_int [] [])) [(.t 44)]⟩]

def f_trial_Survey_near_r12 : List Abs.Op := [
  ⟨some 46, none, false, .mv (.t 5)⟩,
  ⟨some 47, none, false, .call false (.c (.fn i_slices_Compact_int [] [])) [(.t 46)]⟩,
  ⟨some 4, none, false, .mv (.t 47)⟩]

def a_trial_Survey_near : Ann := ⟨[(11, [4]), (10, [5]), (9, [1, 2, 5, 9, 10, 11]), (6, [1, 2, 5, 9, 10, 11]), (8, [1, 2, 5, 9, 10, 11]), (7, [1, 2, 5, 7, 9, 10, 11, 37]), (5, [1, 2, 5, 7, 9, 10, 11, 23]), (4, [1, 2, 5, 7, 9, 10, 11]), (3, [1, 2, 5, 9, 10, 11, 12]), (2, [1, 2, 5, 9, 10, 11]), (1, [1, 2, 5]), (0, [1, 2])], [(0, [1, 2, 5, 9, 10, 11])], [], [5, 7], [7], [], [], [], [], []⟩
def f_trial_Survey_near : Abs.Fn := ⟨2, [.t 4],
  (.seq (.reg [1, 2] f_trial_Survey_near_r0) (.seq (.reg [1, 2, 5] f_trial_Survey_near_r1) (.seq (.seq (.reg [1, 2, 5, 9, 10, 11] f_trial_Survey_near_r2) (.blk 0 (.loop [1, 2, 5, 9, 10, 11] false f_trial_Survey_near_l10))) (.seq (.reg [5] f_trial_Survey_near_r11) (.seq (.reg [4] f_trial_Survey_near_r12) .ret)))))⟩

theorem e_trial_Survey_near_r0 : type_of% f_trial_Survey_near_r0.eq_1 := by_rfl f_trial_Survey_near_r0.eq_1
theorem e_trial_Survey_near_r1 : type_of% f_trial_Survey_near_r1.eq_1 := by_rfl f_trial_Survey_near_r1.eq_1
theorem e_trial_Survey_near_r2 : type_of% f_trial_Survey_near_r2.eq_1 := by_rfl f_trial_Survey_near_r2.eq_1
theorem e_trial_Survey_near_r3 : type_of% f_trial_Survey_near_r3.eq_1 := by_rfl f_trial_Survey_near_r3.eq_1
theorem e_trial_Survey_near_r4 : type_of% f_trial_Survey_near_r4.eq_1 := by_rfl f_trial_Survey_near_r4.eq_1
theorem e_trial_Survey_near_r5 : type_of% f_trial_Survey_near_r5.eq_1 := by_rfl f_trial_Survey_near_r5.eq_1
theorem e_trial_Survey_near_r6 : type_of% f_trial_Survey_near_r6.eq_1 := by_rfl f_trial_Survey_near_r6.eq_1
theorem e_trial_Survey_near_r7 : type_of% f_trial_Survey_near_r7.eq_1 := by_rfl f_trial_Survey_near_r7.eq_1
theorem e_trial_Survey_near_r8 : type_of% f_trial_Survey_near_r8.eq_1 := by_rfl f_trial_Survey_near_r8.eq_1
theorem e_trial_Survey_near_r9 : type_of% f_trial_Survey_near_r9.eq_1 := by_rfl f_trial_Survey_near_r9.eq_1
theorem e_trial_Survey_near_l10 : type_of% f_trial_Survey_near_l10.eq_1 := by_rfl f_trial_Survey_near_l10.eq_1
theorem e_trial_Survey_near_r11 : type_of% f_trial_Survey_near_r11.eq_1 := by_rfl f_trial_Survey_near_r11.eq_1
theorem e_trial_Survey_near_r12 : type_of% f_trial_Survey_near_r12.eq_1 := by_rfl f_trial_Survey_near_r12.eq_1
theorem e_trial_Survey_near : type_of% f_trial_Survey_near.eq_1 := by_rfl f_trial_Survey_near.eq_1
theorem ok_trial_Survey_near : fnC Try.prog a_trial_Survey_near Try.f115 = some f_trial_Survey_near := by kernel_rfl

/-! 116 (fumarole/trial.Survey).way$1 -/
def f_trial_Survey_way_1_r0 : List Abs.Op := [
  ⟨some 4, none, false, .mv (.c (.bool false))⟩]

def f_trial_Survey_way_1_r1 : List Abs.Op := [
  ⟨some 5, none, true, .ld false 1 (.t 1)⟩,
  ⟨some 6, none, true, .mv (.t 0)⟩,
  ⟨some 7, none, true, .idxS 1 (.t 5) (.t 6)⟩,
  ⟨some 8, none, true, .ld false 1 (.t 7)⟩,
  ⟨some 9, none, true, .ld false 1 (.t 1)⟩,
  ⟨some 10, none, true, .ld false 1 (.t 2)⟩,
  ⟨some 11, none, true, .idxS 1 (.t 9) (.t 10)⟩,
  ⟨some 12, none, true, .ld false 1 (.t 11)⟩,
  ⟨some 13, none, true, .bin .sub (.t 12) (.c (.int .i64 1))⟩,
  ⟨some 14, none, false, .bin .eql (.t 8) (.t 13)⟩,
  ⟨some 4, none, false, .mv (.t 14)⟩]

def a_trial_Survey_way_1 : Ann := ⟨[(1, [4]), (0, [0, 1, 2])], [], [], [], [], [], [], [], [], []⟩
def f_trial_Survey_way_1 : Abs.Fn := ⟨3, [.t 4],
  (.seq (.reg [0, 1, 2] f_trial_Survey_way_1_r0) (.seq (.reg [4] f_trial_Survey_way_1_r1) .ret))⟩

theorem e_trial_Survey_way_1_r0 : type_of% f_trial_Survey_way_1_r0.eq_1 := by_rfl f_trial_Survey_way_1_r0.eq_1
theorem e_trial_Survey_way_1_r1 : type_of% f_trial_Survey_way_1_r1.eq_1 := by_rfl f_trial_Survey_way_1_r1.eq_1
theorem e_trial_Survey_way_1 : type_of% f_trial_Survey_way_1.eq_1 := by_rfl f_trial_Survey_way_1.eq_1
theorem ok_trial_Survey_way_1 : fnC Try.prog a_trial_Survey_way_1 Try.f116 = some f_trial_Survey_way_1 := by kernel_rfl

end Go.Proofs.Ytcjjdaifpboaaaa
