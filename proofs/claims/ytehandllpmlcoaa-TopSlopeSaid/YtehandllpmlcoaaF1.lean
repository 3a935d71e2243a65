/- The code of functions of the program, in the small instruction set; each is what the translation makes of it. -/
import Derived.Test.YtehandllpmlcoaaIds
set_option linter.unusedVariables false
set_option maxRecDepth 100000
namespace Go.Proofs.Ytehandllpmlcoaa
open Go Go.Abs
/-! 34 (fumarole/rock.bedded).tick -/
def f_rock_bedded_tick_r0 : List Abs.Op := [
  ⟨some 3, none, false, .boxi (.t 0)⟩,
  ⟨some 6, none, false, .mv (.c .nils)⟩,
  ⟨some 7, none, false, .mv (.c .nils)⟩,
  ⟨some 8, none, false, .mv (.c (.int .i64 0))⟩]

def f_rock_bedded_tick_r1 : List Abs.Op := [
  ⟨some 18, none, false, .mv (.t 1)⟩,
  ⟨some 19, none, false, .call true (.c (.fn i_slices_Clone_rock_State_rock_Block [] [])) [(.t 18)]⟩,
  ⟨some 9, none, false, .mv (.t 19)⟩]

def f_rock_bedded_tick_r2 : List Abs.Op := [
  ⟨some 20, none, false, .ld true 11 (.t 3)⟩,
  ⟨some 21, none, false, .mv (.t 1)⟩,
  ⟨some 22, none, false, .call true (.c (.fn i_rock_bedded_flows [] [])) [(.t 20), (.t 21)]⟩,
  ⟨some 23, none, false, .mp (.rng) [(.t 22)]⟩]

def f_rock_bedded_tick_r3 : List Abs.Op := [
  ⟨some 26, none, false, .mp (.ent) [(.t 23)]⟩,
  ⟨some 27, none, false, .ext (.t 26) 0⟩,
  ⟨some 28, none, false, .ext (.t 26) 1⟩,
  ⟨some 10, none, false, .alcv [] [(.int .i64 0), (.int .i64 0)]⟩,
  ⟨some 11, none, false, .alcv [] [(.int .i64 0), (.int .i64 0), (.int .i64 0)]⟩,
  ⟨none, none, false, .stv 10 [] 2 10 (.t 27)⟩,
  ⟨none, none, false, .stv 11 [] 3 11 (.t 28)⟩]

def f_rock_bedded_tick_r4 : List Abs.Op := [
  ⟨some 29, none, true, .mv (.t 9)⟩,
  ⟨some 30, none, true, .fadr 0 (.t 10)⟩,
  ⟨some 31, none, true, .ldv 10 false 1 30⟩,
  ⟨some 32, none, true, .idxS 3 (.t 29) (.t 31)⟩,
  ⟨some 33, none, true, .ldv 11 true 3 11⟩,
  ⟨some 34, none, false, .call false (.c (.fn i_rock_Block_move [] [])) [(.t 32), (.t 33), (.c (.int .i64 (-1)))]⟩]

def f_rock_bedded_tick_r5 : List Abs.Op := [
  ⟨some 35, none, true, .mv (.t 9)⟩,
  ⟨some 36, none, true, .fadr 1 (.t 10)⟩,
  ⟨some 37, none, true, .ldv 10 false 1 36⟩,
  ⟨some 38, none, true, .idxS 3 (.t 35) (.t 37)⟩,
  ⟨some 39, none, true, .ldv 11 true 3 11⟩,
  ⟨some 40, none, false, .call false (.c (.fn i_rock_Block_move [] [])) [(.t 38), (.t 39), (.c (.int .i64 1))]⟩]

def f_rock_bedded_tick_l6 : Abs.Cmd :=
  (.seq (.ite (.t 25) .nop (.exit 0)) (.blk 1 (.seq (.reg [1, 2, 3, 9, 10, 11, 23] f_rock_bedded_tick_r3) (.seq (.reg [1, 2, 3, 9, 10, 11, 23] f_rock_bedded_tick_r4) (.reg [1, 2, 3, 9, 23] f_rock_bedded_tick_r5)))))

def f_rock_bedded_tick_r7 : List Abs.Op := [
  ⟨some 12, none, false, .nilb 3⟩]

def f_rock_bedded_tick_r8 : List Abs.Op := [
  ⟨some 41, none, false, .mv (.t 2)⟩,
  ⟨some 42, none, false, .lenS (.t 41)⟩,
  ⟨some 43, none, false, .mv (.c (.int .i64 0))⟩]

def f_rock_bedded_tick_r9 : List Abs.Op := [
  ⟨some 44, none, false, .bin .lss (.t 43) (.t 42)⟩]

def f_rock_bedded_tick_r10 : List Abs.Op := [
  ⟨some 45, none, false, .mv (.t 43)⟩,
  ⟨some 46, none, false, .idxS 1 (.t 41) (.t 43)⟩,
  ⟨some 47, none, false, .ld false 1 (.t 46)⟩,
  ⟨some 13, none, false, .mv (.t 45)⟩,
  ⟨some 14, none, false, .mv (.t 47)⟩]

def f_rock_bedded_tick_r11 : List Abs.Op := [
  ⟨some 48, none, false, .fadr 0 (.t 3)⟩,
  ⟨some 49, none, false, .fadr 8 (.t 48)⟩,
  ⟨some 50, none, false, .ld false 1 (.t 49)⟩,
  ⟨some 51, none, false, .mv (.t 13)⟩,
  ⟨some 52, none, false, .idxS 3 (.t 50) (.t 51)⟩,
  ⟨some 53, none, false, .fadr 0 (.t 52)⟩,
  ⟨some 54, none, false, .ld false 1 (.t 53)⟩,
  ⟨some 15, none, false, .mv (.t 54)⟩]

def f_rock_bedded_tick_r12 : List Abs.Op := [
  ⟨some 16, none, false, .alcv [] [(.int .i64 0), (.int .i64 0), (.int .i64 0)]⟩]

def f_rock_bedded_tick_r13 : List Abs.Op := [
  ⟨some 55, none, false, .mv (.t 14)⟩,
  ⟨some 56, none, false, .bin .lss (.t 55) (.c (.int .i64 0))⟩]

def f_rock_bedded_tick_r14 : List Abs.Op := [
  ⟨some 57, none, true, .mv (.t 9)⟩,
  ⟨some 58, none, true, .mv (.t 15)⟩,
  ⟨some 59, none, true, .idxS 3 (.t 57) (.t 58)⟩,
  ⟨some 60, none, true, .fadr 0 (.t 3)⟩,
  ⟨some 61, none, true, .fadr 8 (.t 60)⟩,
  ⟨some 62, none, true, .ld false 1 (.t 61)⟩,
  ⟨some 63, none, true, .mv (.t 13)⟩,
  ⟨some 64, none, true, .idxS 3 (.t 62) (.t 63)⟩,
  ⟨some 65, none, true, .ld true 3 (.t 64)⟩,
  ⟨some 66, none, true, .mv (.t 14)⟩,
  ⟨some 67, none, true, .call false (.c (.fn i_rock_Bore_given [] [])) [(.t 65), (.t 66)]⟩,
  ⟨some 68, none, false, .call false (.c (.fn i_rock_Block_move [] [])) [(.t 59), (.t 67), (.c (.int .i64 1))]⟩]

def f_rock_bedded_tick_r15 : List Abs.Op := [
  ⟨some 69, none, true, .mv (.t 1)⟩,
  ⟨some 70, none, true, .mv (.t 15)⟩,
  ⟨some 71, none, true, .idxS 3 (.t 69) (.t 70)⟩,
  ⟨some 72, none, true, .ld true 3 (.t 71)⟩,
  ⟨some 73, none, true, .mv (.t 14)⟩,
  ⟨some 74, none, true, .mv (.t 1)⟩,
  ⟨some 75, none, true, .mv (.t 15)⟩,
  ⟨some 76, none, true, .idxS 3 (.t 74) (.t 75)⟩,
  ⟨some 77, none, true, .fadr 0 (.t 76)⟩,
  ⟨some 78, none, true, .ld false 1 (.t 77)⟩,
  ⟨some 79, none, true, .bin .quo (.t 78) (.c (.int .i64 8))⟩,
  ⟨some 80, none, true, .mn (.t 73) (.t 79)⟩,
  ⟨some 81, none, false, .call false (.c (.fn i_rock_Block_out [] [])) [(.t 72), (.t 80)]⟩,
  ⟨none, none, false, .stv 16 [] 3 16 (.t 81)⟩]

def f_rock_bedded_tick_r16 : List Abs.Op := [
  ⟨some 82, none, true, .mv (.t 9)⟩,
  ⟨some 83, none, true, .mv (.t 15)⟩,
  ⟨some 84, none, true, .idxS 3 (.t 82) (.t 83)⟩,
  ⟨some 85, none, true, .ldv 16 true 3 16⟩,
  ⟨some 86, none, false, .call false (.c (.fn i_rock_Block_move [] [])) [(.t 84), (.t 85), (.c (.int .i64 (-1)))]⟩]

def f_rock_bedded_tick_r17 : List Abs.Op := [
  ⟨some 87, none, false, .mv (.t 12)⟩,
  ⟨some 88, none, false, .ldv 16 true 3 16⟩,
  ⟨some 89, none, false, .bsi 1 3 [(.int .i64 0), (.int .i64 0), (.int .i64 0)] [(0, 3, (.t 88))]⟩,
  ⟨some 90, none, false, .app 3 24 (.t 87) (.t 89)⟩,
  ⟨some 12, none, false, .mv (.t 90)⟩]

def f_rock_bedded_tick_r18 : List Abs.Op := [
  ⟨some 91, none, false, .bin .add (.t 43) (.c (.int .i64 1))⟩,
  ⟨some 43, none, false, .mv (.t 91)⟩]

def f_rock_bedded_tick_l19 : Abs.Cmd :=
  (.seq (.reg [1, 3, 9, 12, 41, 42, 43, 44] f_rock_bedded_tick_r9) (.seq (.ite (.t 44) .nop (.exit 2)) (.seq (.blk 3 (.seq (.reg [1, 3, 9, 12, 13, 14, 41, 42, 43] f_rock_bedded_tick_r10) (.seq (.reg [1, 3, 9, 12, 13, 14, 15, 41, 42, 43] f_rock_bedded_tick_r11) (.seq (.reg [1, 3, 9, 12, 13, 14, 15, 16, 41, 42, 43] f_rock_bedded_tick_r12) (.seq (.seq (.reg [1, 3, 9, 12, 13, 14, 15, 16, 41, 42, 43, 56] f_rock_bedded_tick_r13) (.ite (.t 56) (.reg [1, 3, 9, 12, 16, 41, 42, 43] f_rock_bedded_tick_r14) (.seq (.reg [1, 3, 9, 12, 15, 16, 41, 42, 43] f_rock_bedded_tick_r15) (.reg [1, 3, 9, 12, 16, 41, 42, 43] f_rock_bedded_tick_r16)))) (.reg [1, 3, 9, 12, 41, 42, 43] f_rock_bedded_tick_r17)))))) (.reg [1, 3, 9, 12, 41, 42, 43] f_rock_bedded_tick_r18))))

def f_rock_bedded_tick_r20 : List Abs.Op := [
  ⟨some 92, none, false, .mv (.t 9)⟩,
  ⟨some 93, none, false, .lenS (.t 92)⟩,
  ⟨some 94, none, false, .mv (.c (.int .i64 0))⟩]

def f_rock_bedded_tick_r21 : List Abs.Op := [
  ⟨some 95, none, false, .bin .lss (.t 94) (.t 93)⟩]

def f_rock_bedded_tick_r22 : List Abs.Op := [
  ⟨some 96, none, false, .mv (.t 94)⟩,
  ⟨some 17, none, false, .mv (.t 96)⟩]

def f_rock_bedded_tick_r23 : List Abs.Op := [
  ⟨some 97, none, true, .mv (.t 9)⟩,
  ⟨some 98, none, true, .mv (.t 17)⟩,
  ⟨some 99, none, true, .idxS 3 (.t 97) (.t 98)⟩,
  ⟨some 100, none, true, .ld true 11 (.t 3)⟩,
  ⟨some 101, none, true, .mv (.t 17)⟩,
  ⟨some 102, none, true, .call false (.c (.fn i_rock_bedded_fed [] [])) [(.t 100), (.t 101)]⟩,
  ⟨some 103, none, false, .call false (.c (.fn i_rock_Block_move [] [])) [(.t 99), (.t 102), (.c (.int .i64 1))]⟩]

def f_rock_bedded_tick_r24 : List Abs.Op := [
  ⟨some 104, none, false, .bin .add (.t 94) (.c (.int .i64 1))⟩,
  ⟨some 94, none, false, .mv (.t 104)⟩]

def f_rock_bedded_tick_l25 : Abs.Cmd :=
  (.seq (.reg [3, 9, 12, 93, 94, 95] f_rock_bedded_tick_r21) (.seq (.ite (.t 95) .nop (.exit 4)) (.seq (.blk 5 (.seq (.reg [3, 9, 12, 17, 93, 94] f_rock_bedded_tick_r22) (.reg [3, 9, 12, 93, 94] f_rock_bedded_tick_r23))) (.reg [3, 9, 12, 93, 94] f_rock_bedded_tick_r24))))

def f_rock_bedded_tick_r26 : List Abs.Op := [
  ⟨some 105, none, false, .ld true 11 (.t 3)⟩,
  ⟨some 106, none, false, .mv (.t 9)⟩,
  ⟨some 107, none, false, .call false (.c (.fn i_rock_bedded_state [] [])) [(.t 105), (.t 106)]⟩,
  ⟨some 108, none, false, .un .not (.t 107)⟩]

def f_rock_bedded_tick_r27 : List Abs.Op := [
  ⟨some 6, none, false, .mv (.c .nils)⟩,
  ⟨some 7, none, false, .mv (.c .nils)⟩,
  ⟨some 8, none, false, .mv (.c (.int .i64 9))⟩]

def f_rock_bedded_tick_r28 : List Abs.Op := [
  ⟨some 109, none, false, .mv (.t 9)⟩,
  ⟨some 110, none, false, .mv (.t 12)⟩,
  ⟨some 6, none, false, .mv (.t 109)⟩,
  ⟨some 7, none, false, .mv (.t 110)⟩,
  ⟨some 8, none, false, .mv (.c (.int .i64 0))⟩]

def f_rock_bedded_tick_l29 : Abs.Cmd :=
  (.seq (.reg [1, 2, 3, 9, 12] f_rock_bedded_tick_r7) (.seq (.seq (.reg [1, 3, 9, 12, 41, 42, 43] f_rock_bedded_tick_r8) (.blk 2 (.loop [1, 3, 9, 12, 41, 42, 43] false f_rock_bedded_tick_l19))) (.seq (.seq (.reg [3, 9, 12, 93, 94] f_rock_bedded_tick_r20) (.blk 4 (.loop [3, 9, 12, 93, 94] false f_rock_bedded_tick_l25))) (.seq (.seq (.reg [9, 12, 108] f_rock_bedded_tick_r26) (.ite (.t 108) (.seq (.reg [6, 7, 8] f_rock_bedded_tick_r27) .ret) .nop)) (.seq (.reg [6, 7, 8] f_rock_bedded_tick_r28) .ret)))))

def a_rock_bedded_tick : Ann := ⟨[(26, [6, 7, 8]), (25, [6, 7, 8]), (24, [9, 12, 108]), (23, [3, 9, 12, 93, 94]), (22, [3, 9, 12, 93, 94]), (21, [3, 9, 12, 17, 93, 94]), (20, [3, 9, 12, 93, 94, 95]), (19, [3, 9, 12, 93, 94]), (18, [1, 3, 9, 12, 41, 42, 43]), (17, [1, 3, 9, 12, 41, 42, 43]), (14, [1, 3, 9, 12, 16, 41, 42, 43]), (16, [1, 3, 9, 12, 16, 41, 42, 43]), (15, [1, 3, 9, 12, 15, 16, 41, 42, 43]), (13, [1, 3, 9, 12, 13, 14, 15, 16, 41, 42, 43, 56]), (12, [1, 3, 9, 12, 13, 14, 15, 16, 41, 42, 43]), (11, [1, 3, 9, 12, 13, 14, 15, 41, 42, 43]), (10, [1, 3, 9, 12, 13, 14, 41, 42, 43]), (9, [1, 3, 9, 12, 41, 42, 43, 44]), (8, [1, 3, 9, 12, 41, 42, 43]), (7, [1, 2, 3, 9, 12]), (6, [1, 2, 3, 9, 23]), (5, [1, 2, 3, 9, 10, 11, 23]), (4, [1, 2, 3, 9, 10, 11, 23]), (3, [1, 2, 3, 9, 23, 25]), (2, [1, 2, 3, 9, 23]), (1, [1, 2, 3, 9]), (0, [1, 2, 3])], [(4, [3, 9, 12, 93, 94]), (2, [1, 3, 9, 12, 41, 42, 43]), (0, [1, 2, 3, 9, 23])], [], [10, 11, 12, 16], [10, 11, 16], [], [2002, 1001], [], [], [], []⟩
def f_rock_bedded_tick : Abs.Fn := ⟨3, [.t 6, .t 7, .t 8],
  (.seq (.reg [1, 2, 3] f_rock_bedded_tick_r0) (.seq (.reg [1, 2, 3, 9] f_rock_bedded_tick_r1) (.seq (.reg [1, 2, 3, 9, 23] f_rock_bedded_tick_r2) (.mloop [1, 2, 3, 9, 23] (.t 23) 24 25 0 f_rock_bedded_tick_l6 f_rock_bedded_tick_l29))))⟩

@[simp] theorem e_rock_bedded_tick_r0 : type_of% f_rock_bedded_tick_r0.eq_1 := by_rfl f_rock_bedded_tick_r0.eq_1
@[simp] theorem e_rock_bedded_tick_r1 : type_of% f_rock_bedded_tick_r1.eq_1 := by_rfl f_rock_bedded_tick_r1.eq_1
@[simp] theorem e_rock_bedded_tick_r2 : type_of% f_rock_bedded_tick_r2.eq_1 := by_rfl f_rock_bedded_tick_r2.eq_1
@[simp] theorem e_rock_bedded_tick_r3 : type_of% f_rock_bedded_tick_r3.eq_1 := by_rfl f_rock_bedded_tick_r3.eq_1
@[simp] theorem e_rock_bedded_tick_r4 : type_of% f_rock_bedded_tick_r4.eq_1 := by_rfl f_rock_bedded_tick_r4.eq_1
@[simp] theorem e_rock_bedded_tick_r5 : type_of% f_rock_bedded_tick_r5.eq_1 := by_rfl f_rock_bedded_tick_r5.eq_1
theorem e_rock_bedded_tick_l6 : type_of% f_rock_bedded_tick_l6.eq_1 := by_rfl f_rock_bedded_tick_l6.eq_1
@[simp] theorem e_rock_bedded_tick_r7 : type_of% f_rock_bedded_tick_r7.eq_1 := by_rfl f_rock_bedded_tick_r7.eq_1
@[simp] theorem e_rock_bedded_tick_r8 : type_of% f_rock_bedded_tick_r8.eq_1 := by_rfl f_rock_bedded_tick_r8.eq_1
@[simp] theorem e_rock_bedded_tick_r9 : type_of% f_rock_bedded_tick_r9.eq_1 := by_rfl f_rock_bedded_tick_r9.eq_1
@[simp] theorem e_rock_bedded_tick_r10 : type_of% f_rock_bedded_tick_r10.eq_1 := by_rfl f_rock_bedded_tick_r10.eq_1
@[simp] theorem e_rock_bedded_tick_r11 : type_of% f_rock_bedded_tick_r11.eq_1 := by_rfl f_rock_bedded_tick_r11.eq_1
@[simp] theorem e_rock_bedded_tick_r12 : type_of% f_rock_bedded_tick_r12.eq_1 := by_rfl f_rock_bedded_tick_r12.eq_1
@[simp] theorem e_rock_bedded_tick_r13 : type_of% f_rock_bedded_tick_r13.eq_1 := by_rfl f_rock_bedded_tick_r13.eq_1
@[simp] theorem e_rock_bedded_tick_r14 : type_of% f_rock_bedded_tick_r14.eq_1 := by_rfl f_rock_bedded_tick_r14.eq_1
@[simp] theorem e_rock_bedded_tick_r15 : type_of% f_rock_bedded_tick_r15.eq_1 := by_rfl f_rock_bedded_tick_r15.eq_1
@[simp] theorem e_rock_bedded_tick_r16 : type_of% f_rock_bedded_tick_r16.eq_1 := by_rfl f_rock_bedded_tick_r16.eq_1
@[simp] theorem e_rock_bedded_tick_r17 : type_of% f_rock_bedded_tick_r17.eq_1 := by_rfl f_rock_bedded_tick_r17.eq_1
@[simp] theorem e_rock_bedded_tick_r18 : type_of% f_rock_bedded_tick_r18.eq_1 := by_rfl f_rock_bedded_tick_r18.eq_1
theorem e_rock_bedded_tick_l19 : type_of% f_rock_bedded_tick_l19.eq_1 := by_rfl f_rock_bedded_tick_l19.eq_1
@[simp] theorem e_rock_bedded_tick_r20 : type_of% f_rock_bedded_tick_r20.eq_1 := by_rfl f_rock_bedded_tick_r20.eq_1
@[simp] theorem e_rock_bedded_tick_r21 : type_of% f_rock_bedded_tick_r21.eq_1 := by_rfl f_rock_bedded_tick_r21.eq_1
@[simp] theorem e_rock_bedded_tick_r22 : type_of% f_rock_bedded_tick_r22.eq_1 := by_rfl f_rock_bedded_tick_r22.eq_1
@[simp] theorem e_rock_bedded_tick_r23 : type_of% f_rock_bedded_tick_r23.eq_1 := by_rfl f_rock_bedded_tick_r23.eq_1
@[simp] theorem e_rock_bedded_tick_r24 : type_of% f_rock_bedded_tick_r24.eq_1 := by_rfl f_rock_bedded_tick_r24.eq_1
theorem e_rock_bedded_tick_l25 : type_of% f_rock_bedded_tick_l25.eq_1 := by_rfl f_rock_bedded_tick_l25.eq_1
@[simp] theorem e_rock_bedded_tick_r26 : type_of% f_rock_bedded_tick_r26.eq_1 := by_rfl f_rock_bedded_tick_r26.eq_1
@[simp] theorem e_rock_bedded_tick_r27 : type_of% f_rock_bedded_tick_r27.eq_1 := by_rfl f_rock_bedded_tick_r27.eq_1
@[simp] theorem e_rock_bedded_tick_r28 : type_of% f_rock_bedded_tick_r28.eq_1 := by_rfl f_rock_bedded_tick_r28.eq_1
theorem e_rock_bedded_tick_l29 : type_of% f_rock_bedded_tick_l29.eq_1 := by_rfl f_rock_bedded_tick_l29.eq_1
theorem e_rock_bedded_tick : type_of% f_rock_bedded_tick.eq_1 := by_rfl f_rock_bedded_tick.eq_1
theorem ok_rock_bedded_tick : fnC Try.prog a_rock_bedded_tick Try.f34 = some f_rock_bedded_tick := by kernel_rfl

/-! 35 (fumarole/rock.Bed).size -/
def f_rock_Bed_size_r0 : List Abs.Op := [
  ⟨some 1, none, false, .boxi (.t 0)⟩,
  ⟨some 2, none, false, .mv (.c (.int .i64 0))⟩]

def f_rock_Bed_size_r1 : List Abs.Op := [
  ⟨some 3, none, false, .fadr 0 (.t 1)⟩,
  ⟨some 4, none, false, .fadr 0 (.t 3)⟩,
  ⟨some 5, none, false, .ld false 1 (.t 4)⟩,
  ⟨some 6, none, false, .fadr 0 (.t 1)⟩,
  ⟨some 7, none, false, .fadr 1 (.t 6)⟩,
  ⟨some 8, none, false, .ld false 1 (.t 7)⟩,
  ⟨some 9, none, false, .bin .mul (.t 5) (.t 8)⟩,
  ⟨some 10, none, false, .fadr 0 (.t 1)⟩,
  ⟨some 11, none, false, .fadr 2 (.t 10)⟩,
  ⟨some 12, none, false, .ld false 1 (.t 11)⟩,
  ⟨some 13, none, false, .bin .mul (.t 9) (.t 12)⟩,
  ⟨some 2, none, false, .mv (.t 13)⟩]

def a_rock_Bed_size : Ann := ⟨[(1, [2]), (0, [1])], [], [], [], [], [], [], [], [], [], []⟩
def f_rock_Bed_size : Abs.Fn := ⟨1, [.t 2],
  (.seq (.reg [1] f_rock_Bed_size_r0) (.seq (.reg [2] f_rock_Bed_size_r1) .ret))⟩

@[simp] theorem e_rock_Bed_size_r0 : type_of% f_rock_Bed_size_r0.eq_1 := by_rfl f_rock_Bed_size_r0.eq_1
@[simp] theorem e_rock_Bed_size_r1 : type_of% f_rock_Bed_size_r1.eq_1 := by_rfl f_rock_Bed_size_r1.eq_1
theorem e_rock_Bed_size : type_of% f_rock_Bed_size.eq_1 := by_rfl f_rock_Bed_size.eq_1
theorem ok_rock_Bed_size : fnC Try.prog a_rock_Bed_size Try.f35 = some f_rock_Bed_size := by kernel_rfl

/-! 36 fumarole/rock.all[fumarole/rock.Block] -/
def f_rock_all_rock_Block_r0 : List Abs.Op := [
  ⟨some 3, none, false, .boxi (.t 1)⟩,
  ⟨some 4, none, false, .mv (.c (.bool false))⟩]

def f_rock_all_rock_Block_r1 : List Abs.Op := [
  ⟨some 5, none, false, .mv (.t 0)⟩,
  ⟨some 6, none, false, .mkf i_rock_all_rock_Block_1 [] [(.t 3)]⟩,
  ⟨some 7, none, false, .call false (.c (.fn i_slices_ContainsFunc_rock_Block [] [])) [(.t 5), (.t 6)]⟩,
  ⟨some 8, none, false, .un .not (.t 7)⟩,
  ⟨some 4, none, false, .mv (.t 8)⟩]

def a_rock_all_rock_Block : Ann := ⟨[(1, [4]), (0, [0, 3])], [], [], [], [], [], [], [], [], [], []⟩
def f_rock_all_rock_Block : Abs.Fn := ⟨2, [.t 4],
  (.seq (.reg [0, 3] f_rock_all_rock_Block_r0) (.seq (.reg [4] f_rock_all_rock_Block_r1) .ret))⟩

@[simp] theorem e_rock_all_rock_Block_r0 : type_of% f_rock_all_rock_Block_r0.eq_1 := by_rfl f_rock_all_rock_Block_r0.eq_1
@[simp] theorem e_rock_all_rock_Block_r1 : type_of% f_rock_all_rock_Block_r1.eq_1 := by_rfl f_rock_all_rock_Block_r1.eq_1
theorem e_rock_all_rock_Block : type_of% f_rock_all_rock_Block.eq_1 := by_rfl f_rock_all_rock_Block.eq_1
theorem ok_rock_all_rock_Block : fnC Try.prog a_rock_all_rock_Block Try.f36 = some f_rock_all_rock_Block := by kernel_rfl

/-! 37 (fumarole/rock.Block).valid -/
def f_rock_Block_valid_r0 : List Abs.Op := [
  ⟨some 1, none, false, .boxi (.t 0)⟩,
  ⟨some 2, none, false, .mv (.c (.bool false))⟩]

def f_rock_Block_valid_r1 : List Abs.Op := [
  ⟨some 3, none, false, .fadr 0 (.t 1)⟩,
  ⟨some 4, none, false, .ld false 1 (.t 3)⟩,
  ⟨some 5, none, false, .call false (.c (.fn i_rock_within [] [])) [(.t 4), (.c (.int .i64 1)), (.c (.int .i64 1000000))]⟩,
  ⟨some 6, none, false, .mv (.t 5)⟩,
  ⟨some 7, some (6, true), false, .fadr 1 (.t 1)⟩,
  ⟨some 8, some (6, true), false, .ld false 1 (.t 7)⟩,
  ⟨some 9, some (6, true), false, .call false (.c (.fn i_rock_within [] [])) [(.t 8), (.c (.int .i64 0)), (.c (.int .i64 10000000000))]⟩,
  ⟨some 10, none, false, .pick (.t 6) (.t 9) (.c (.bool false))⟩,
  ⟨some 11, none, false, .mv (.t 10)⟩,
  ⟨some 12, some (11, true), false, .fadr 2 (.t 1)⟩,
  ⟨some 13, some (11, true), false, .ld false 1 (.t 12)⟩,
  ⟨some 14, some (11, true), false, .call false (.c (.fn i_rock_within [] [])) [(.t 13), (.c (.int .i64 0)), (.c (.int .i64 1000000000000))]⟩,
  ⟨some 15, none, false, .pick (.t 11) (.t 14) (.c (.bool false))⟩,
  ⟨some 2, none, false, .mv (.t 15)⟩]

def a_rock_Block_valid : Ann := ⟨[(1, [2]), (0, [1])], [], [], [], [], [], [], [], [], [], []⟩
def f_rock_Block_valid : Abs.Fn := ⟨1, [.t 2],
  (.seq (.reg [1] f_rock_Block_valid_r0) (.seq (.reg [2] f_rock_Block_valid_r1) .ret))⟩

@[simp] theorem e_rock_Block_valid_r0 : type_of% f_rock_Block_valid_r0.eq_1 := by_rfl f_rock_Block_valid_r0.eq_1
@[simp] theorem e_rock_Block_valid_r1 : type_of% f_rock_Block_valid_r1.eq_1 := by_rfl f_rock_Block_valid_r1.eq_1
theorem e_rock_Block_valid : type_of% f_rock_Block_valid.eq_1 := by_rfl f_rock_Block_valid.eq_1
theorem ok_rock_Block_valid : fnC Try.prog a_rock_Block_valid Try.f37 = some f_rock_Block_valid := by kernel_rfl

/-! 38 (fumarole/rock.bedded).pressure -/
def f_rock_bedded_pressure_r0 : List Abs.Op := [
  ⟨some 3, none, false, .boxi (.t 0)⟩,
  ⟨some 6, none, false, .mv (.c (.int .i64 0))⟩]

def f_rock_bedded_pressure_r1 : List Abs.Op := [
  ⟨some 10, none, true, .ld true 11 (.t 3)⟩,
  ⟨some 11, none, true, .mv (.t 2)⟩,
  ⟨some 12, none, true, .call false (.c (.fn i_rock_bedded_weight [] [])) [(.t 10), (.t 11)]⟩,
  ⟨some 13, none, true, .fadr 0 (.t 3)⟩,
  ⟨some 14, none, true, .fadr 5 (.t 13)⟩,
  ⟨some 15, none, true, .ld false 1 (.t 14)⟩,
  ⟨some 16, none, true, .mv (.t 1)⟩,
  ⟨some 17, none, true, .mv (.t 2)⟩,
  ⟨some 18, none, true, .idxS 3 (.t 16) (.t 17)⟩,
  ⟨some 19, none, true, .fadr 0 (.t 18)⟩,
  ⟨some 20, none, true, .ld false 1 (.t 19)⟩,
  ⟨some 21, none, true, .ld true 11 (.t 3)⟩,
  ⟨some 22, none, true, .mv (.t 2)⟩,
  ⟨some 23, none, true, .call false (.c (.fn i_rock_bedded_hold [] [])) [(.t 21), (.t 22)]⟩,
  ⟨some 24, none, true, .bin .sub (.t 20) (.t 23)⟩,
  ⟨some 25, none, true, .bin .mul (.t 15) (.t 24)⟩,
  ⟨some 26, none, true, .ld true 11 (.t 3)⟩,
  ⟨some 27, none, true, .mv (.t 2)⟩,
  ⟨some 28, none, true, .call false (.c (.fn i_rock_bedded_hold [] [])) [(.t 26), (.t 27)]⟩,
  ⟨some 29, none, false, .call false (.c (.fn i_rock_down [] [])) [(.t 25), (.t 28)]⟩,
  ⟨some 30, none, false, .bin .add (.t 12) (.t 29)⟩,
  ⟨some 31, none, false, .mx (.c (.int .i64 0)) (.t 30)⟩,
  ⟨some 7, none, false, .mv (.t 31)⟩]

def f_rock_bedded_pressure_r2 : List Abs.Op := [
  ⟨some 32, none, false, .fadr 0 (.t 3)⟩,
  ⟨some 33, none, false, .fadr 4 (.t 32)⟩,
  ⟨some 34, none, false, .ld false 1 (.t 33)⟩,
  ⟨some 35, none, false, .lenS (.t 34)⟩,
  ⟨some 36, none, false, .mv (.c (.int .i64 0))⟩]

def f_rock_bedded_pressure_r3 : List Abs.Op := [
  ⟨some 37, none, false, .bin .lss (.t 36) (.t 35)⟩]

def f_rock_bedded_pressure_r4 : List Abs.Op := [
  ⟨some 38, none, false, .idxS 5 (.t 34) (.t 36)⟩,
  ⟨some 39, none, false, .ld true 5 (.t 38)⟩,
  ⟨some 9, none, false, .alcv [] [(.int .i64 0), (.int .i64 0), (.int .i64 0), (.int .i64 0), (.int .i64 0)]⟩,
  ⟨none, none, false, .stv 9 [] 5 9 (.t 39)⟩]

def f_rock_bedded_pressure_r5 : List Abs.Op := [
  ⟨some 40, none, true, .fadr 2 (.t 9)⟩,
  ⟨some 41, none, true, .ldv 9 false 1 40⟩,
  ⟨some 42, none, true, .mv (.t 1)⟩,
  ⟨some 43, none, true, .mv (.t 2)⟩,
  ⟨some 44, none, true, .idxS 3 (.t 42) (.t 43)⟩,
  ⟨some 45, none, true, .fadr 0 (.t 44)⟩,
  ⟨some 46, none, true, .ld false 1 (.t 45)⟩,
  ⟨some 47, none, true, .bin .mul (.t 41) (.t 46)⟩,
  ⟨some 48, none, true, .mv (.t 1)⟩,
  ⟨some 49, none, true, .mv (.t 2)⟩,
  ⟨some 50, none, true, .idxS 3 (.t 48) (.t 49)⟩,
  ⟨some 51, none, true, .fadr 1 (.t 50)⟩,
  ⟨some 52, none, true, .ld false 1 (.t 51)⟩,
  ⟨some 53, none, false, .bin .leq (.t 47) (.t 52)⟩]

def f_rock_bedded_pressure_r6 : List Abs.Op := [
  ⟨some 54, none, false, .mv (.t 7)⟩,
  ⟨some 55, none, false, .fadr 1 (.t 9)⟩,
  ⟨some 56, none, false, .ldv 9 false 1 55⟩,
  ⟨some 57, none, false, .mx (.t 54) (.t 56)⟩,
  ⟨some 7, none, false, .mv (.t 57)⟩]

def f_rock_bedded_pressure_r7 : List Abs.Op := [
  ⟨some 58, none, false, .bin .add (.t 36) (.c (.int .i64 1))⟩,
  ⟨some 36, none, false, .mv (.t 58)⟩]

def f_rock_bedded_pressure_l8 : Abs.Cmd :=
  (.seq (.reg [1, 2, 7, 34, 35, 36, 37] f_rock_bedded_pressure_r3) (.seq (.ite (.t 37) .nop (.exit 0)) (.seq (.blk 1 (.seq (.reg [1, 2, 7, 9, 34, 35, 36] f_rock_bedded_pressure_r4) (.seq (.reg [1, 2, 7, 9, 34, 35, 36, 53] f_rock_bedded_pressure_r5) (.ite (.t 53) (.reg [1, 2, 7, 34, 35, 36] f_rock_bedded_pressure_r6) .nop)))) (.reg [1, 2, 7, 34, 35, 36] f_rock_bedded_pressure_r7))))

def f_rock_bedded_pressure_r9 : List Abs.Op := [
  ⟨some 59, none, false, .mv (.t 7)⟩,
  ⟨some 6, none, false, .mv (.t 59)⟩]

def a_rock_bedded_pressure : Ann := ⟨[(8, [6]), (7, [1, 2, 7, 34, 35, 36]), (6, [1, 2, 7, 34, 35, 36]), (5, [1, 2, 7, 9, 34, 35, 36, 53]), (4, [1, 2, 7, 9, 34, 35, 36]), (3, [1, 2, 7, 34, 35, 36, 37]), (2, [1, 2, 7, 34, 35, 36]), (1, [1, 2, 3, 7]), (0, [1, 2, 3])], [(0, [1, 2, 7, 34, 35, 36])], [], [9], [9], [], [], [], [], [], []⟩
def f_rock_bedded_pressure : Abs.Fn := ⟨3, [.t 6],
  (.seq (.reg [1, 2, 3] f_rock_bedded_pressure_r0) (.seq (.reg [1, 2, 3, 7] f_rock_bedded_pressure_r1) (.seq (.seq (.reg [1, 2, 7, 34, 35, 36] f_rock_bedded_pressure_r2) (.blk 0 (.loop [1, 2, 7, 34, 35, 36] false f_rock_bedded_pressure_l8))) (.seq (.reg [6] f_rock_bedded_pressure_r9) .ret))))⟩

@[simp] theorem e_rock_bedded_pressure_r0 : type_of% f_rock_bedded_pressure_r0.eq_1 := by_rfl f_rock_bedded_pressure_r0.eq_1
@[simp] theorem e_rock_bedded_pressure_r1 : type_of% f_rock_bedded_pressure_r1.eq_1 := by_rfl f_rock_bedded_pressure_r1.eq_1
@[simp] theorem e_rock_bedded_pressure_r2 : type_of% f_rock_bedded_pressure_r2.eq_1 := by_rfl f_rock_bedded_pressure_r2.eq_1
@[simp] theorem e_rock_bedded_pressure_r3 : type_of% f_rock_bedded_pressure_r3.eq_1 := by_rfl f_rock_bedded_pressure_r3.eq_1
@[simp] theorem e_rock_bedded_pressure_r4 : type_of% f_rock_bedded_pressure_r4.eq_1 := by_rfl f_rock_bedded_pressure_r4.eq_1
@[simp] theorem e_rock_bedded_pressure_r5 : type_of% f_rock_bedded_pressure_r5.eq_1 := by_rfl f_rock_bedded_pressure_r5.eq_1
@[simp] theorem e_rock_bedded_pressure_r6 : type_of% f_rock_bedded_pressure_r6.eq_1 := by_rfl f_rock_bedded_pressure_r6.eq_1
@[simp] theorem e_rock_bedded_pressure_r7 : type_of% f_rock_bedded_pressure_r7.eq_1 := by_rfl f_rock_bedded_pressure_r7.eq_1
theorem e_rock_bedded_pressure_l8 : type_of% f_rock_bedded_pressure_l8.eq_1 := by_rfl f_rock_bedded_pressure_l8.eq_1
@[simp] theorem e_rock_bedded_pressure_r9 : type_of% f_rock_bedded_pressure_r9.eq_1 := by_rfl f_rock_bedded_pressure_r9.eq_1
theorem e_rock_bedded_pressure : type_of% f_rock_bedded_pressure.eq_1 := by_rfl f_rock_bedded_pressure.eq_1
theorem ok_rock_bedded_pressure : fnC Try.prog a_rock_bedded_pressure Try.f38 = some f_rock_bedded_pressure := by kernel_rfl

/-! 39 (fumarole/trial.Range).right -/
def f_trial_Range_right_r0 : List Abs.Op := [
  ⟨some 3, none, false, .boxi (.t 0)⟩,
  ⟨some 6, none, false, .mv (.c (.bool false))⟩]

def f_trial_Range_right_r1 : List Abs.Op := [
  ⟨some 7, none, false, .mv (.t 1)⟩,
  ⟨some 8, none, false, .fadr 0 (.t 3)⟩,
  ⟨some 9, none, false, .ld false 1 (.t 8)⟩,
  ⟨some 10, none, false, .bin .leq (.t 7) (.t 9)⟩,
  ⟨some 11, none, false, .mv (.t 10)⟩,
  ⟨some 12, some (11, true), false, .fadr 0 (.t 3)⟩,
  ⟨some 13, some (11, true), false, .ld false 1 (.t 12)⟩,
  ⟨some 14, some (11, true), false, .fadr 1 (.t 3)⟩,
  ⟨some 15, some (11, true), false, .ld false 1 (.t 14)⟩,
  ⟨some 16, some (11, true), false, .bin .leq (.t 13) (.t 15)⟩,
  ⟨some 17, none, false, .pick (.t 11) (.t 16) (.c (.bool false))⟩,
  ⟨some 18, none, false, .mv (.t 17)⟩,
  ⟨some 19, some (18, true), false, .fadr 1 (.t 3)⟩,
  ⟨some 20, some (18, true), false, .ld false 1 (.t 19)⟩,
  ⟨some 21, some (18, true), false, .mv (.t 2)⟩,
  ⟨some 22, some (18, true), false, .bin .leq (.t 20) (.t 21)⟩,
  ⟨some 23, none, false, .pick (.t 18) (.t 22) (.c (.bool false))⟩,
  ⟨some 6, none, false, .mv (.t 23)⟩]

def a_trial_Range_right : Ann := ⟨[(1, [6]), (0, [1, 2, 3])], [], [], [], [], [], [], [], [], [], []⟩
def f_trial_Range_right : Abs.Fn := ⟨3, [.t 6],
  (.seq (.reg [1, 2, 3] f_trial_Range_right_r0) (.seq (.reg [6] f_trial_Range_right_r1) .ret))⟩

@[simp] theorem e_trial_Range_right_r0 : type_of% f_trial_Range_right_r0.eq_1 := by_rfl f_trial_Range_right_r0.eq_1
@[simp] theorem e_trial_Range_right_r1 : type_of% f_trial_Range_right_r1.eq_1 := by_rfl f_trial_Range_right_r1.eq_1
theorem e_trial_Range_right : type_of% f_trial_Range_right.eq_1 := by_rfl f_trial_Range_right.eq_1
theorem ok_trial_Range_right : fnC Try.prog a_trial_Range_right Try.f39 = some f_trial_Range_right := by kernel_rfl

/-! 40 (fumarole/trial.Range).drops -/
def f_trial_Range_drops_r0 : List Abs.Op := [
  ⟨some 1, none, false, .boxi (.t 0)⟩,
  ⟨some 2, none, false, .mv (.c (.bool false))⟩]

def f_trial_Range_drops_r1 : List Abs.Op := [
  ⟨some 3, none, false, .ld true 2 (.t 1)⟩,
  ⟨some 4, none, false, .call false (.c (.fn i_trial_Range_right [] [])) [(.t 3), (.c (.int .i64 (-2000000000))), (.c (.int .i64 2000000000))]⟩,
  ⟨some 2, none, false, .mv (.t 4)⟩]

def a_trial_Range_drops : Ann := ⟨[(1, [2]), (0, [1])], [], [], [], [], [], [], [], [], [], []⟩
def f_trial_Range_drops : Abs.Fn := ⟨1, [.t 2],
  (.seq (.reg [1] f_trial_Range_drops_r0) (.seq (.reg [2] f_trial_Range_drops_r1) .ret))⟩

@[simp] theorem e_trial_Range_drops_r0 : type_of% f_trial_Range_drops_r0.eq_1 := by_rfl f_trial_Range_drops_r0.eq_1
@[simp] theorem e_trial_Range_drops_r1 : type_of% f_trial_Range_drops_r1.eq_1 := by_rfl f_trial_Range_drops_r1.eq_1
theorem e_trial_Range_drops : type_of% f_trial_Range_drops.eq_1 := by_rfl f_trial_Range_drops.eq_1
theorem ok_trial_Range_drops : fnC Try.prog a_trial_Range_drops Try.f40 = some f_trial_Range_drops := by kernel_rfl

/-! 41 (fumarole/trial.Test).sets -/
def f_trial_Test_sets_r0 : List Abs.Op := [
  ⟨some 1, none, false, .boxi (.t 0)⟩,
  ⟨some 2, none, false, .mv (.c .nilf)⟩]

def f_trial_Test_sets_r1 : List Abs.Op := [
  ⟨some 3, none, false, .mkf i_trial_Test_sets_1 [] [(.t 1)]⟩,
  ⟨some 2, none, false, .mv (.t 3)⟩]

def a_trial_Test_sets : Ann := ⟨[(1, [2]), (0, [1])], [], [], [], [], [], [], [], [], [], []⟩
def f_trial_Test_sets : Abs.Fn := ⟨1, [.t 2],
  (.seq (.reg [1] f_trial_Test_sets_r0) (.seq (.reg [2] f_trial_Test_sets_r1) .ret))⟩

@[simp] theorem e_trial_Test_sets_r0 : type_of% f_trial_Test_sets_r0.eq_1 := by_rfl f_trial_Test_sets_r0.eq_1
@[simp] theorem e_trial_Test_sets_r1 : type_of% f_trial_Test_sets_r1.eq_1 := by_rfl f_trial_Test_sets_r1.eq_1
theorem e_trial_Test_sets : type_of% f_trial_Test_sets.eq_1 := by_rfl f_trial_Test_sets.eq_1
theorem ok_trial_Test_sets : fnC Try.prog a_trial_Test_sets Try.f41 = some f_trial_Test_sets := by kernel_rfl

/-! 42 (fumarole/trial.Range).less -/
def f_trial_Range_less_r0 : List Abs.Op := [
  ⟨some 2, none, false, .boxi (.t 0)⟩,
  ⟨some 4, none, false, .alcv [] [(.int .i64 0), (.int .i64 0)]⟩]

def f_trial_Range_less_r1 : List Abs.Op := [
  ⟨some 5, none, false, .fadr 0 (.t 2)⟩,
  ⟨some 6, none, false, .ld false 1 (.t 5)⟩,
  ⟨some 7, none, false, .mv (.t 1)⟩,
  ⟨some 8, none, false, .bin .sub (.t 6) (.t 7)⟩,
  ⟨some 9, none, false, .fadr 1 (.t 2)⟩,
  ⟨some 10, none, false, .ld false 1 (.t 9)⟩,
  ⟨some 11, none, false, .mv (.t 1)⟩,
  ⟨some 12, none, false, .bin .sub (.t 10) (.t 11)⟩,
  ⟨some 13, none, false, .bld [(.int .i64 0), (.int .i64 0)] [(0, 1, (.t 8)), (1, 1, (.t 12))]⟩,
  ⟨none, none, false, .stv 4 [] 2 4 (.t 13)⟩]

def a_trial_Range_less : Ann := ⟨[(1, [4]), (0, [1, 2, 4])], [], [], [4], [4], [], [], [], [], [], []⟩
def f_trial_Range_less : Abs.Fn := ⟨2, [.v 4 true 2],
  (.seq (.reg [1, 2, 4] f_trial_Range_less_r0) (.seq (.reg [4] f_trial_Range_less_r1) .ret))⟩

@[simp] theorem e_trial_Range_less_r0 : type_of% f_trial_Range_less_r0.eq_1 := by_rfl f_trial_Range_less_r0.eq_1
@[simp] theorem e_trial_Range_less_r1 : type_of% f_trial_Range_less_r1.eq_1 := by_rfl f_trial_Range_less_r1.eq_1
theorem e_trial_Range_less : type_of% f_trial_Range_less.eq_1 := by_rfl f_trial_Range_less.eq_1
theorem ok_trial_Range_less : fnC Try.prog a_trial_Range_less Try.f42 = some f_trial_Range_less := by kernel_rfl

/-! 43 fumarole/trial.span -/
def f_trial_span_r0 : List Abs.Op := [
  ⟨some 2, none, false, .boxi (.t 0)⟩,
  ⟨some 3, none, false, .boxi (.t 1)⟩,
  ⟨some 4, none, false, .alcv [] [(.int .i64 0), (.int .i64 0)]⟩]

def f_trial_span_r1 : List Abs.Op := [
  ⟨some 5, none, false, .fadr 0 (.t 2)⟩,
  ⟨some 6, none, false, .ld false 1 (.t 5)⟩,
  ⟨some 7, none, false, .fadr 0 (.t 3)⟩,
  ⟨some 8, none, false, .ld false 1 (.t 7)⟩,
  ⟨some 9, none, false, .mn (.t 6) (.t 8)⟩,
  ⟨some 10, none, false, .fadr 1 (.t 2)⟩,
  ⟨some 11, none, false, .ld false 1 (.t 10)⟩,
  ⟨some 12, none, false, .fadr 1 (.t 3)⟩,
  ⟨some 13, none, false, .ld false 1 (.t 12)⟩,
  ⟨some 14, none, false, .mx (.t 11) (.t 13)⟩,
  ⟨some 15, none, false, .bld [(.int .i64 0), (.int .i64 0)] [(0, 1, (.t 9)), (1, 1, (.t 14))]⟩,
  ⟨none, none, false, .stv 4 [] 2 4 (.t 15)⟩]

def a_trial_span : Ann := ⟨[(1, [4]), (0, [2, 3, 4])], [], [], [4], [4], [], [], [], [], [], []⟩
def f_trial_span : Abs.Fn := ⟨2, [.v 4 true 2],
  (.seq (.reg [2, 3, 4] f_trial_span_r0) (.seq (.reg [4] f_trial_span_r1) .ret))⟩

@[simp] theorem e_trial_span_r0 : type_of% f_trial_span_r0.eq_1 := by_rfl f_trial_span_r0.eq_1
@[simp] theorem e_trial_span_r1 : type_of% f_trial_span_r1.eq_1 := by_rfl f_trial_span_r1.eq_1
theorem e_trial_span : type_of% f_trial_span.eq_1 := by_rfl f_trial_span.eq_1
theorem ok_trial_span : fnC Try.prog a_trial_span Try.f43 = some f_trial_span := by kernel_rfl

/-! 48 fumarole/field.CheckField -/
def f_field_CheckField_r0 : List Abs.Op := [
  ⟨some 1, none, false, .boxi (.t 0)⟩,
  ⟨some 2, none, false, .mv (.c (.int .i64 0))⟩]

def f_field_CheckField_r1 : List Abs.Op := [
  ⟨some 3, none, false, .ld true 4 (.t 1)⟩,
  ⟨some 4, none, false, .call false (.c (.fn i_field_Field_shape [] [])) [(.t 3)]⟩,
  ⟨some 2, none, false, .mv (.t 4)⟩]

def a_field_CheckField : Ann := ⟨[(1, [2]), (0, [1])], [], [], [], [], [], [], [], [], [], []⟩
def f_field_CheckField : Abs.Fn := ⟨1, [.t 2],
  (.seq (.reg [1] f_field_CheckField_r0) (.seq (.reg [2] f_field_CheckField_r1) .ret))⟩

@[simp] theorem e_field_CheckField_r0 : type_of% f_field_CheckField_r0.eq_1 := by_rfl f_field_CheckField_r0.eq_1
@[simp] theorem e_field_CheckField_r1 : type_of% f_field_CheckField_r1.eq_1 := by_rfl f_field_CheckField_r1.eq_1
theorem e_field_CheckField : type_of% f_field_CheckField.eq_1 := by_rfl f_field_CheckField.eq_1
theorem ok_field_CheckField : fnC Try.prog a_field_CheckField Try.f48 = some f_field_CheckField := by kernel_rfl

/-! 49 fumarole/steam.CheckTable -/
def f_steam_CheckTable_r0 : List Abs.Op := [
  ⟨some 2, none, false, .mv (.c (.int .i64 0))⟩]

def f_steam_CheckTable_r1 : List Abs.Op := [
  ⟨some 3, none, false, .mv (.t 0)⟩,
  ⟨some 4, none, false, .call false (.c (.fn i_steam_Table_valid [] [])) [(.t 3)]⟩,
  ⟨some 5, none, false, .un .not (.t 4)⟩]

def f_steam_CheckTable_r2 : List Abs.Op := [
  ⟨some 2, none, false, .mv (.c (.int .i64 1))⟩]

def f_steam_CheckTable_r3 : List Abs.Op := [
  ⟨some 2, none, false, .mv (.c (.int .i64 0))⟩]

def a_steam_CheckTable : Ann := ⟨[(3, [2]), (2, [2]), (1, [5]), (0, [0])], [], [], [], [], [], [], [], [], [], []⟩
def f_steam_CheckTable : Abs.Fn := ⟨1, [.t 2],
  (.seq (.reg [0] f_steam_CheckTable_r0) (.seq (.seq (.reg [5] f_steam_CheckTable_r1) (.ite (.t 5) (.seq (.reg [2] f_steam_CheckTable_r2) .ret) .nop)) (.seq (.reg [2] f_steam_CheckTable_r3) .ret)))⟩

@[simp] theorem e_steam_CheckTable_r0 : type_of% f_steam_CheckTable_r0.eq_1 := by_rfl f_steam_CheckTable_r0.eq_1
@[simp] theorem e_steam_CheckTable_r1 : type_of% f_steam_CheckTable_r1.eq_1 := by_rfl f_steam_CheckTable_r1.eq_1
@[simp] theorem e_steam_CheckTable_r2 : type_of% f_steam_CheckTable_r2.eq_1 := by_rfl f_steam_CheckTable_r2.eq_1
@[simp] theorem e_steam_CheckTable_r3 : type_of% f_steam_CheckTable_r3.eq_1 := by_rfl f_steam_CheckTable_r3.eq_1
theorem e_steam_CheckTable : type_of% f_steam_CheckTable.eq_1 := by_rfl f_steam_CheckTable.eq_1
theorem ok_steam_CheckTable : fnC Try.prog a_steam_CheckTable Try.f49 = some f_steam_CheckTable := by kernel_rfl

/-! 50 fumarole/rock.within -/
def f_rock_within_r0 : List Abs.Op := [
  ⟨some 6, none, false, .mv (.c (.bool false))⟩]

def f_rock_within_r1 : List Abs.Op := [
  ⟨some 7, none, false, .mv (.t 1)⟩,
  ⟨some 8, none, false, .mv (.t 0)⟩,
  ⟨some 9, none, false, .bin .leq (.t 7) (.t 8)⟩,
  ⟨some 10, none, false, .mv (.t 9)⟩,
  ⟨some 11, some (10, true), false, .mv (.t 0)⟩,
  ⟨some 12, some (10, true), false, .mv (.t 2)⟩,
  ⟨some 13, some (10, true), false, .bin .leq (.t 11) (.t 12)⟩,
  ⟨some 14, none, false, .pick (.t 10) (.t 13) (.c (.bool false))⟩,
  ⟨some 6, none, false, .mv (.t 14)⟩]

def a_rock_within : Ann := ⟨[(1, [6]), (0, [0, 1, 2])], [], [], [], [], [], [], [], [], [], []⟩
def f_rock_within : Abs.Fn := ⟨3, [.t 6],
  (.seq (.reg [0, 1, 2] f_rock_within_r0) (.seq (.reg [6] f_rock_within_r1) .ret))⟩

@[simp] theorem e_rock_within_r0 : type_of% f_rock_within_r0.eq_1 := by_rfl f_rock_within_r0.eq_1
@[simp] theorem e_rock_within_r1 : type_of% f_rock_within_r1.eq_1 := by_rfl f_rock_within_r1.eq_1
theorem e_rock_within : type_of% f_rock_within.eq_1 := by_rfl f_rock_within.eq_1
theorem ok_rock_within : fnC Try.prog a_rock_within Try.f50 = some f_rock_within := by kernel_rfl

/-! 51 fumarole/rock.all[fumarole/rock.Bore] -/
def f_rock_all_rock_Bore_r0 : List Abs.Op := [
  ⟨some 3, none, false, .boxi (.t 1)⟩,
  ⟨some 4, none, false, .mv (.c (.bool false))⟩]

def f_rock_all_rock_Bore_r1 : List Abs.Op := [
  ⟨some 5, none, false, .mv (.t 0)⟩,
  ⟨some 6, none, false, .mkf i_rock_all_rock_Bore_1 [] [(.t 3)]⟩,
  ⟨some 7, none, false, .call false (.c (.fn i_slices_ContainsFunc_rock_Bore [] [])) [(.t 5), (.t 6)]⟩,
  ⟨some 8, none, false, .un .not (.t 7)⟩,
  ⟨some 4, none, false, .mv (.t 8)⟩]

def a_rock_all_rock_Bore : Ann := ⟨[(1, [4]), (0, [0, 3])], [], [], [], [], [], [], [], [], [], []⟩
def f_rock_all_rock_Bore : Abs.Fn := ⟨2, [.t 4],
  (.seq (.reg [0, 3] f_rock_all_rock_Bore_r0) (.seq (.reg [4] f_rock_all_rock_Bore_r1) .ret))⟩

@[simp] theorem e_rock_all_rock_Bore_r0 : type_of% f_rock_all_rock_Bore_r0.eq_1 := by_rfl f_rock_all_rock_Bore_r0.eq_1
@[simp] theorem e_rock_all_rock_Bore_r1 : type_of% f_rock_all_rock_Bore_r1.eq_1 := by_rfl f_rock_all_rock_Bore_r1.eq_1
theorem e_rock_all_rock_Bore : type_of% f_rock_all_rock_Bore.eq_1 := by_rfl f_rock_all_rock_Bore.eq_1
theorem ok_rock_all_rock_Bore : fnC Try.prog a_rock_all_rock_Bore Try.f51 = some f_rock_all_rock_Bore := by kernel_rfl

/-! 52 (fumarole/rock.Bed).valid$1 -/
def f_rock_Bed_valid_1_r0 : List Abs.Op := [
  ⟨some 2, none, false, .boxi (.t 0)⟩,
  ⟨some 3, none, false, .mv (.c (.bool false))⟩]

def f_rock_Bed_valid_1_r1 : List Abs.Op := [
  ⟨some 4, none, false, .fadr 0 (.t 2)⟩,
  ⟨some 5, none, false, .ld false 1 (.t 4)⟩,
  ⟨some 6, none, false, .ld false 1 (.t 1)⟩,
  ⟨some 7, none, false, .lenS (.t 6)⟩,
  ⟨some 8, none, false, .bin .sub (.t 7) (.c (.int .i64 1))⟩,
  ⟨some 9, none, false, .call false (.c (.fn i_rock_within [] [])) [(.t 5), (.c (.int .i64 0)), (.t 8)]⟩,
  ⟨some 10, none, false, .un .not (.t 9)⟩,
  ⟨some 11, none, false, .mv (.t 10)⟩,
  ⟨some 12, some (11, false), false, .ld false 1 (.t 1)⟩,
  ⟨some 13, some (11, false), false, .fadr 0 (.t 2)⟩,
  ⟨some 14, some (11, false), false, .ld false 1 (.t 13)⟩,
  ⟨some 15, some (11, false), false, .idxS 1 (.t 12) (.t 14)⟩,
  ⟨some 16, some (11, false), false, .ld false 1 (.t 15)⟩,
  ⟨some 17, none, false, .pick (.t 11) (.c (.bool true)) (.t 16)⟩]

def f_rock_Bed_valid_1_r2 : List Abs.Op := [
  ⟨some 3, none, false, .mv (.c (.bool false))⟩]

def f_rock_Bed_valid_1_r3 : List Abs.Op := [
  ⟨some 18, none, false, .ld false 1 (.t 1)⟩,
  ⟨some 19, none, false, .fadr 0 (.t 2)⟩,
  ⟨some 20, none, false, .ld false 1 (.t 19)⟩,
  ⟨some 21, none, false, .idxS 1 (.t 18) (.t 20)⟩,
  ⟨none, none, false, .st [] 1 (.t 21) (.c (.bool true))⟩]

def f_rock_Bed_valid_1_r4 : List Abs.Op := [
  ⟨some 22, none, false, .fadr 1 (.t 2)⟩,
  ⟨some 23, none, false, .ld false 1 (.t 22)⟩,
  ⟨some 24, none, false, .call false (.c (.fn i_rock_within [] [])) [(.t 23), (.c (.int .i64 0)), (.c (.int .i64 3000))]⟩,
  ⟨some 25, none, false, .mv (.t 24)⟩,
  ⟨some 26, some (25, true), false, .fadr 2 (.t 2)⟩,
  ⟨some 27, some (25, true), false, .ld false 1 (.t 26)⟩,
  ⟨some 28, some (25, true), false, .call false (.c (.fn i_rock_within [] [])) [(.t 27), (.c (.int .i64 0)), (.c (.int .i64 1000000))]⟩,
  ⟨some 29, none, false, .pick (.t 25) (.t 28) (.c (.bool false))⟩,
  ⟨some 3, none, false, .mv (.t 29)⟩]

def a_rock_Bed_valid_1 : Ann := ⟨[(4, [3]), (3, [2]), (2, [3]), (1, [1, 2, 17]), (0, [1, 2])], [], [], [], [], [], [], [], [], [], []⟩
def f_rock_Bed_valid_1 : Abs.Fn := ⟨2, [.t 3],
  (.seq (.reg [1, 2] f_rock_Bed_valid_1_r0) (.seq (.seq (.reg [1, 2, 17] f_rock_Bed_valid_1_r1) (.ite (.t 17) (.seq (.reg [3] f_rock_Bed_valid_1_r2) .ret) .nop)) (.seq (.reg [2] f_rock_Bed_valid_1_r3) (.seq (.reg [3] f_rock_Bed_valid_1_r4) .ret))))⟩

@[simp] theorem e_rock_Bed_valid_1_r0 : type_of% f_rock_Bed_valid_1_r0.eq_1 := by_rfl f_rock_Bed_valid_1_r0.eq_1
@[simp] theorem e_rock_Bed_valid_1_r1 : type_of% f_rock_Bed_valid_1_r1.eq_1 := by_rfl f_rock_Bed_valid_1_r1.eq_1
@[simp] theorem e_rock_Bed_valid_1_r2 : type_of% f_rock_Bed_valid_1_r2.eq_1 := by_rfl f_rock_Bed_valid_1_r2.eq_1
@[simp] theorem e_rock_Bed_valid_1_r3 : type_of% f_rock_Bed_valid_1_r3.eq_1 := by_rfl f_rock_Bed_valid_1_r3.eq_1
@[simp] theorem e_rock_Bed_valid_1_r4 : type_of% f_rock_Bed_valid_1_r4.eq_1 := by_rfl f_rock_Bed_valid_1_r4.eq_1
theorem e_rock_Bed_valid_1 : type_of% f_rock_Bed_valid_1.eq_1 := by_rfl f_rock_Bed_valid_1.eq_1
theorem ok_rock_Bed_valid_1 : fnC Try.prog a_rock_Bed_valid_1 Try.f52 = some f_rock_Bed_valid_1 := by kernel_rfl

/-! 53 fumarole/field.CheckModels -/
def f_field_CheckModels_r0 : List Abs.Op := [
  ⟨some 2, none, false, .boxi (.t 0)⟩,
  ⟨some 3, none, false, .boxi (.t 1)⟩,
  ⟨some 4, none, false, .mv (.c (.int .i64 0))⟩]

def f_field_CheckModels_r1 : List Abs.Op := [
  ⟨some 5, none, false, .ld true 4 (.t 2)⟩,
  ⟨some 6, none, false, .mkf i_field_Field_shape [(.t 5)] []⟩,
  ⟨some 7, none, false, .mkf i_field_CheckModels_1 [] [(.t 2), (.t 3)]⟩,
  ⟨some 8, none, false, .bsi 2 1 [.nilf, .nilf] [(0, 1, (.t 6)), (1, 1, (.t 7))]⟩,
  ⟨some 9, none, false, .call false (.c (.fn i_field_first [] [])) [(.t 8)]⟩,
  ⟨some 4, none, false, .mv (.t 9)⟩]

def a_field_CheckModels : Ann := ⟨[(1, [4]), (0, [2, 3])], [], [], [], [], [], [], [], [], [], []⟩
def f_field_CheckModels : Abs.Fn := ⟨2, [.t 4],
  (.seq (.reg [2, 3] f_field_CheckModels_r0) (.seq (.reg [4] f_field_CheckModels_r1) .ret))⟩

@[simp] theorem e_field_CheckModels_r0 : type_of% f_field_CheckModels_r0.eq_1 := by_rfl f_field_CheckModels_r0.eq_1
@[simp] theorem e_field_CheckModels_r1 : type_of% f_field_CheckModels_r1.eq_1 := by_rfl f_field_CheckModels_r1.eq_1
theorem e_field_CheckModels : type_of% f_field_CheckModels.eq_1 := by_rfl f_field_CheckModels.eq_1
theorem ok_field_CheckModels : fnC Try.prog a_field_CheckModels Try.f53 = some f_field_CheckModels := by kernel_rfl

/-! 54 fumarole/rock.all[int] -/
def f_rock_all_int_r0 : List Abs.Op := [
  ⟨some 3, none, false, .boxi (.t 1)⟩,
  ⟨some 4, none, false, .mv (.c (.bool false))⟩]

def f_rock_all_int_r1 : List Abs.Op := [
  ⟨some 5, none, false, .mv (.t 0)⟩,
  ⟨some 6, none, false, .mkf i_rock_all_int_1 [] [(.t 3)]⟩,
  ⟨some 7, none, false, .call false (.c (.fn i_slices_ContainsFunc_int [] [])) [(.t 5), (.t 6)]⟩,
  ⟨some 8, none, false, .un .not (.t 7)⟩,
  ⟨some 4, none, false, .mv (.t 8)⟩]

def a_rock_all_int : Ann := ⟨[(1, [4]), (0, [0, 3])], [], [], [], [], [], [], [], [], [], []⟩
def f_rock_all_int : Abs.Fn := ⟨2, [.t 4],
  (.seq (.reg [0, 3] f_rock_all_int_r0) (.seq (.reg [4] f_rock_all_int_r1) .ret))⟩

@[simp] theorem e_rock_all_int_r0 : type_of% f_rock_all_int_r0.eq_1 := by_rfl f_rock_all_int_r0.eq_1
@[simp] theorem e_rock_all_int_r1 : type_of% f_rock_all_int_r1.eq_1 := by_rfl f_rock_all_int_r1.eq_1
theorem e_rock_all_int : type_of% f_rock_all_int.eq_1 := by_rfl f_rock_all_int.eq_1
theorem ok_rock_all_int : fnC Try.prog a_rock_all_int Try.f54 = some f_rock_all_int := by kernel_rfl

/-! 55 (fumarole/rock.bedded).kind -/
def f_rock_bedded_kind_r0 : List Abs.Op := [
  ⟨some 2, none, false, .boxi (.t 0)⟩,
  ⟨some 4, none, false, .mv (.c .nils)⟩]

def f_rock_bedded_kind_r1 : List Abs.Op := [
  ⟨some 5, none, true, .fadr 9 (.t 2)⟩,
  ⟨some 6, none, true, .fadr 1 (.t 5)⟩,
  ⟨some 7, none, true, .ld false 1 (.t 6)⟩,
  ⟨some 8, none, true, .mv (.t 1)⟩,
  ⟨some 9, none, true, .fadr 0 (.t 2)⟩,
  ⟨some 10, none, true, .ld true 9 (.t 9)⟩,
  ⟨some 11, none, true, .call false (.c (.fn i_rock_Bed_size [] [])) [(.t 10)]⟩,
  ⟨some 12, none, true, .bin .mul (.t 8) (.t 11)⟩,
  ⟨some 13, none, true, .mv (.t 1)⟩,
  ⟨some 14, none, true, .bin .add (.t 13) (.c (.int .i64 1))⟩,
  ⟨some 15, none, true, .fadr 0 (.t 2)⟩,
  ⟨some 16, none, true, .ld true 9 (.t 15)⟩,
  ⟨some 17, none, true, .call false (.c (.fn i_rock_Bed_size [] [])) [(.t 16)]⟩,
  ⟨some 18, none, true, .bin .mul (.t 14) (.t 17)⟩,
  ⟨some 19, none, false, .slc 1 (.t 7) (some (.t 12)) (some (.t 18)) none⟩,
  ⟨some 4, none, false, .mv (.t 19)⟩]

def a_rock_bedded_kind : Ann := ⟨[(1, [4]), (0, [1, 2])], [], [], [], [], [], [], [], [], [], []⟩
def f_rock_bedded_kind : Abs.Fn := ⟨2, [.t 4],
  (.seq (.reg [1, 2] f_rock_bedded_kind_r0) (.seq (.reg [4] f_rock_bedded_kind_r1) .ret))⟩

@[simp] theorem e_rock_bedded_kind_r0 : type_of% f_rock_bedded_kind_r0.eq_1 := by_rfl f_rock_bedded_kind_r0.eq_1
@[simp] theorem e_rock_bedded_kind_r1 : type_of% f_rock_bedded_kind_r1.eq_1 := by_rfl f_rock_bedded_kind_r1.eq_1
theorem e_rock_bedded_kind : type_of% f_rock_bedded_kind.eq_1 := by_rfl f_rock_bedded_kind.eq_1
theorem ok_rock_bedded_kind : fnC Try.prog a_rock_bedded_kind Try.f55 = some f_rock_bedded_kind := by kernel_rfl

/-! 56 (fumarole/rock.bedded).fits$1 -/
def f_rock_bedded_fits_1_r0 : List Abs.Op := [
  ⟨some 3, none, false, .mv (.c (.bool false))⟩]

def f_rock_bedded_fits_1_r1 : List Abs.Op := [
  ⟨some 4, none, false, .mv (.t 0)⟩,
  ⟨some 5, none, false, .idxA 2 1 (.t 1) (.c (.int .i64 0))⟩,
  ⟨some 6, none, false, .ld false 1 (.t 5)⟩,
  ⟨some 7, none, false, .idxA 2 1 (.t 1) (.c (.int .i64 1))⟩,
  ⟨some 8, none, false, .ld false 1 (.t 7)⟩,
  ⟨some 9, none, false, .call false (.c (.fn i_rock_within [] [])) [(.t 4), (.t 6), (.t 8)]⟩,
  ⟨some 3, none, false, .mv (.t 9)⟩]

def a_rock_bedded_fits_1 : Ann := ⟨[(1, [3]), (0, [0, 1])], [], [], [], [], [], [], [], [], [], []⟩
def f_rock_bedded_fits_1 : Abs.Fn := ⟨2, [.t 3],
  (.seq (.reg [0, 1] f_rock_bedded_fits_1_r0) (.seq (.reg [3] f_rock_bedded_fits_1_r1) .ret))⟩

@[simp] theorem e_rock_bedded_fits_1_r0 : type_of% f_rock_bedded_fits_1_r0.eq_1 := by_rfl f_rock_bedded_fits_1_r0.eq_1
@[simp] theorem e_rock_bedded_fits_1_r1 : type_of% f_rock_bedded_fits_1_r1.eq_1 := by_rfl f_rock_bedded_fits_1_r1.eq_1
theorem e_rock_bedded_fits_1 : type_of% f_rock_bedded_fits_1.eq_1 := by_rfl f_rock_bedded_fits_1.eq_1
theorem ok_rock_bedded_fits_1 : fnC Try.prog a_rock_bedded_fits_1 Try.f56 = some f_rock_bedded_fits_1 := by kernel_rfl

/-! 57 (fumarole/rock.Bed).rates$1 -/
def f_rock_Bed_rates_1_r0 : List Abs.Op := [
  ⟨some 2, none, false, .mv (.c (.bool false))⟩]

def f_rock_Bed_rates_1_r1 : List Abs.Op := [
  ⟨some 3, none, false, .mv (.t 0)⟩,
  ⟨some 4, none, false, .call false (.c (.fn i_rock_within [] [])) [(.t 3), (.c (.int .i64 (-100000))), (.c (.int .i64 100000))]⟩,
  ⟨some 2, none, false, .mv (.t 4)⟩]

def a_rock_Bed_rates_1 : Ann := ⟨[(1, [2]), (0, [0])], [], [], [], [], [], [], [], [], [], []⟩
def f_rock_Bed_rates_1 : Abs.Fn := ⟨1, [.t 2],
  (.seq (.reg [0] f_rock_Bed_rates_1_r0) (.seq (.reg [2] f_rock_Bed_rates_1_r1) .ret))⟩

@[simp] theorem e_rock_Bed_rates_1_r0 : type_of% f_rock_Bed_rates_1_r0.eq_1 := by_rfl f_rock_Bed_rates_1_r0.eq_1
@[simp] theorem e_rock_Bed_rates_1_r1 : type_of% f_rock_Bed_rates_1_r1.eq_1 := by_rfl f_rock_Bed_rates_1_r1.eq_1
theorem e_rock_Bed_rates_1 : type_of% f_rock_Bed_rates_1.eq_1 := by_rfl f_rock_Bed_rates_1.eq_1
theorem ok_rock_Bed_rates_1 : fnC Try.prog a_rock_Bed_rates_1 Try.f57 = some f_rock_Bed_rates_1 := by kernel_rfl

/-! 58 (fumarole/rock.bedded).hold -/
def f_rock_bedded_hold_r0 : List Abs.Op := [
  ⟨some 2, none, false, .boxi (.t 0)⟩,
  ⟨some 4, none, false, .mv (.c (.int .i64 0))⟩]

def f_rock_bedded_hold_r1 : List Abs.Op := [
  ⟨some 5, none, false, .ld true 11 (.t 2)⟩,
  ⟨some 6, none, false, .call false (.c (.fn i_rock_bedded_kind [] [])) [(.t 5), (.c (.int .i64 0))]⟩,
  ⟨some 7, none, false, .mv (.t 1)⟩,
  ⟨some 8, none, false, .idxS 1 (.t 6) (.t 7)⟩,
  ⟨some 9, none, false, .ld false 1 (.t 8)⟩,
  ⟨some 4, none, false, .mv (.t 9)⟩]

def a_rock_bedded_hold : Ann := ⟨[(1, [4]), (0, [1, 2])], [], [], [], [], [], [], [], [], [], []⟩
def f_rock_bedded_hold : Abs.Fn := ⟨2, [.t 4],
  (.seq (.reg [1, 2] f_rock_bedded_hold_r0) (.seq (.reg [4] f_rock_bedded_hold_r1) .ret))⟩

@[simp] theorem e_rock_bedded_hold_r0 : type_of% f_rock_bedded_hold_r0.eq_1 := by_rfl f_rock_bedded_hold_r0.eq_1
@[simp] theorem e_rock_bedded_hold_r1 : type_of% f_rock_bedded_hold_r1.eq_1 := by_rfl f_rock_bedded_hold_r1.eq_1
theorem e_rock_bedded_hold : type_of% f_rock_bedded_hold.eq_1 := by_rfl f_rock_bedded_hold.eq_1
theorem ok_rock_bedded_hold : fnC Try.prog a_rock_bedded_hold Try.f58 = some f_rock_bedded_hold := by kernel_rfl

/-! 59 (fumarole/rock.bedded).warm -/
def f_rock_bedded_warm_r0 : List Abs.Op := [
  ⟨some 2, none, false, .boxi (.t 0)⟩,
  ⟨some 4, none, false, .mv (.c (.int .i64 0))⟩]

def f_rock_bedded_warm_r1 : List Abs.Op := [
  ⟨some 5, none, false, .ld true 11 (.t 2)⟩,
  ⟨some 6, none, false, .call false (.c (.fn i_rock_bedded_kind [] [])) [(.t 5), (.c (.int .i64 2))]⟩,
  ⟨some 7, none, false, .mv (.t 1)⟩,
  ⟨some 8, none, false, .idxS 1 (.t 6) (.t 7)⟩,
  ⟨some 9, none, false, .ld false 1 (.t 8)⟩,
  ⟨some 4, none, false, .mv (.t 9)⟩]

def a_rock_bedded_warm : Ann := ⟨[(1, [4]), (0, [1, 2])], [], [], [], [], [], [], [], [], [], []⟩
def f_rock_bedded_warm : Abs.Fn := ⟨2, [.t 4],
  (.seq (.reg [1, 2] f_rock_bedded_warm_r0) (.seq (.reg [4] f_rock_bedded_warm_r1) .ret))⟩

@[simp] theorem e_rock_bedded_warm_r0 : type_of% f_rock_bedded_warm_r0.eq_1 := by_rfl f_rock_bedded_warm_r0.eq_1
@[simp] theorem e_rock_bedded_warm_r1 : type_of% f_rock_bedded_warm_r1.eq_1 := by_rfl f_rock_bedded_warm_r1.eq_1
theorem e_rock_bedded_warm : type_of% f_rock_bedded_warm.eq_1 := by_rfl f_rock_bedded_warm.eq_1
theorem ok_rock_bedded_warm : fnC Try.prog a_rock_bedded_warm Try.f59 = some f_rock_bedded_warm := by kernel_rfl

/-! 60 slices.Clone[fumarole/rock.State,fumarole/rock.Block] -/
def f_slices_Clone_rock_State_rock_Block_r0 : List Abs.Op := [
  ⟨some 2, none, false, .nilb 3⟩]

def f_slices_Clone_rock_State_rock_Block_r1 : List Abs.Op := [
  ⟨some 3, none, false, .mv (.t 0)⟩,
  ⟨some 4, none, false, .isn false false (.t 3)⟩]

def f_slices_Clone_rock_State_rock_Block_r2 : List Abs.Op := [
  ⟨some 2, none, false, .nilb 3⟩]

def f_slices_Clone_rock_State_rock_Block_r3 : List Abs.Op := [
  ⟨some 5, none, false, .bsm 0 3 [] []⟩,
  ⟨some 6, none, false, .mv (.t 0)⟩,
  ⟨some 7, none, false, .app 3 24 (.t 5) (.t 6)⟩,
  ⟨some 2, none, false, .mv (.t 7)⟩]

def a_slices_Clone_rock_State_rock_Block : Ann := ⟨[(3, [2]), (2, [2]), (1, [0, 4]), (0, [0])], [], [], [2, 5], [], [], [], [], [], [], []⟩
def f_slices_Clone_rock_State_rock_Block : Abs.Fn := ⟨1, [.t 2],
  (.seq (.reg [0] f_slices_Clone_rock_State_rock_Block_r0) (.seq (.seq (.reg [0, 4] f_slices_Clone_rock_State_rock_Block_r1) (.ite (.t 4) (.seq (.reg [2] f_slices_Clone_rock_State_rock_Block_r2) .ret) .nop)) (.seq (.reg [2] f_slices_Clone_rock_State_rock_Block_r3) .ret)))⟩

@[simp] theorem e_slices_Clone_rock_State_rock_Block_r0 : type_of% f_slices_Clone_rock_State_rock_Block_r0.eq_1 := by_rfl f_slices_Clone_rock_State_rock_Block_r0.eq_1
@[simp] theorem e_slices_Clone_rock_State_rock_Block_r1 : type_of% f_slices_Clone_rock_State_rock_Block_r1.eq_1 := by_rfl f_slices_Clone_rock_State_rock_Block_r1.eq_1
@[simp] theorem e_slices_Clone_rock_State_rock_Block_r2 : type_of% f_slices_Clone_rock_State_rock_Block_r2.eq_1 := by_rfl f_slices_Clone_rock_State_rock_Block_r2.eq_1
@[simp] theorem e_slices_Clone_rock_State_rock_Block_r3 : type_of% f_slices_Clone_rock_State_rock_Block_r3.eq_1 := by_rfl f_slices_Clone_rock_State_rock_Block_r3.eq_1
theorem e_slices_Clone_rock_State_rock_Block : type_of% f_slices_Clone_rock_State_rock_Block.eq_1 := by_rfl f_slices_Clone_rock_State_rock_Block.eq_1
theorem ok_slices_Clone_rock_State_rock_Block : fnC Try.prog a_slices_Clone_rock_State_rock_Block Try.f60 = some f_slices_Clone_rock_State_rock_Block := by kernel_rfl

/-! 61 (fumarole/rock.bedded).flows -/
def f_rock_bedded_flows_r0 : List Abs.Op := [
  ⟨some 2, none, false, .boxi (.t 0)⟩,
  ⟨some 3, none, false, .boxi (.t 1)⟩,
  ⟨some 4, none, false, .mv (.c .undef)⟩]

def f_rock_bedded_flows_r1 : List Abs.Op := [
  ⟨some 11, none, false, .mp (.make) []⟩,
  ⟨some 5, none, false, .alc [] [.undef]⟩,
  ⟨none, none, false, .st [] 1 (.t 5) (.t 11)⟩]

def f_rock_bedded_flows_r2 : List Abs.Op := [
  ⟨some 12, none, false, .ld true 11 (.t 2)⟩,
  ⟨some 13, none, false, .ld false 1 (.t 3)⟩,
  ⟨some 14, none, false, .call false (.c (.fn i_rock_bedded_pressures [] [])) [(.t 12), (.t 13)]⟩,
  ⟨some 6, none, false, .alc [] [.nils]⟩,
  ⟨none, none, false, .st [] 1 (.t 6) (.t 14)⟩]

def f_rock_bedded_flows_r3 : List Abs.Op := [
  ⟨some 15, none, false, .fadr 0 (.t 2)⟩,
  ⟨some 16, none, false, .ld true 9 (.t 15)⟩,
  ⟨some 17, none, false, .call false (.c (.fn i_rock_Bed_links [] [])) [(.t 16)]⟩]

def f_rock_bedded_flows_r4 : List Abs.Op := [
  ⟨some 7, none, false, .alcv [] [(.int .i64 0), (.int .i64 0)]⟩,
  ⟨none, none, false, .stv 7 [] 2 7 (.t 18)⟩]

def f_rock_bedded_flows_r5 : List Abs.Op := [
  ⟨some 19, none, true, .ld false 1 (.t 6)⟩,
  ⟨some 20, none, true, .fadr 0 (.t 7)⟩,
  ⟨some 21, none, true, .ldv 7 false 1 20⟩,
  ⟨some 22, none, true, .idxS 1 (.t 19) (.t 21)⟩,
  ⟨some 23, none, true, .ld false 1 (.t 22)⟩,
  ⟨some 24, none, true, .ld true 11 (.t 2)⟩,
  ⟨some 25, none, true, .fadr 0 (.t 7)⟩,
  ⟨some 26, none, true, .ldv 7 false 1 25⟩,
  ⟨some 27, none, true, .call false (.c (.fn i_rock_bedded_weight [] [])) [(.t 24), (.t 26)]⟩,
  ⟨some 28, none, true, .bin .sub (.t 23) (.t 27)⟩,
  ⟨some 29, none, true, .ld false 1 (.t 6)⟩,
  ⟨some 30, none, true, .fadr 1 (.t 7)⟩,
  ⟨some 31, none, true, .ldv 7 false 1 30⟩,
  ⟨some 32, none, true, .idxS 1 (.t 29) (.t 31)⟩,
  ⟨some 33, none, true, .ld false 1 (.t 32)⟩,
  ⟨some 34, none, true, .bin .sub (.t 28) (.t 33)⟩,
  ⟨some 35, none, true, .ld true 11 (.t 2)⟩,
  ⟨some 36, none, true, .fadr 1 (.t 7)⟩,
  ⟨some 37, none, true, .ldv 7 false 1 36⟩,
  ⟨some 38, none, true, .call false (.c (.fn i_rock_bedded_weight [] [])) [(.t 35), (.t 37)]⟩,
  ⟨some 39, none, false, .bin .add (.t 34) (.t 38)⟩,
  ⟨some 8, none, false, .mv (.t 39)⟩]

def f_rock_bedded_flows_r6 : List Abs.Op := [
  ⟨some 40, none, false, .mv (.t 8)⟩,
  ⟨some 41, none, false, .bin .lss (.t 40) (.c (.int .i64 0))⟩]

def f_rock_bedded_flows_r7 : List Abs.Op := [
  ⟨some 42, none, false, .fadr 1 (.t 7)⟩,
  ⟨some 43, none, false, .ldv 7 false 1 42⟩,
  ⟨some 44, none, false, .fadr 0 (.t 7)⟩,
  ⟨some 45, none, false, .ldv 7 false 1 44⟩,
  ⟨some 46, none, false, .bld [(.int .i64 0), (.int .i64 0)] [(0, 1, (.t 43)), (1, 1, (.t 45))]⟩,
  ⟨some 47, none, false, .mv (.t 8)⟩,
  ⟨some 48, none, false, .un .neg (.t 47)⟩,
  ⟨none, none, false, .stv 7 [] 2 7 (.t 46)⟩,
  ⟨some 8, none, false, .mv (.t 48)⟩]

def f_rock_bedded_flows_r8 : List Abs.Op := [
  ⟨some 49, none, true, .ld true 11 (.t 2)⟩,
  ⟨some 50, none, true, .fadr 0 (.t 7)⟩,
  ⟨some 51, none, true, .ldv 7 false 1 50⟩,
  ⟨some 52, none, true, .call false (.c (.fn i_rock_bedded_open [] [])) [(.t 49), (.t 51)]⟩,
  ⟨some 53, none, true, .ld true 11 (.t 2)⟩,
  ⟨some 54, none, true, .fadr 1 (.t 7)⟩,
  ⟨some 55, none, true, .ldv 7 false 1 54⟩,
  ⟨some 56, none, false, .call false (.c (.fn i_rock_bedded_open [] [])) [(.t 53), (.t 55)]⟩,
  ⟨some 57, none, false, .mn (.t 52) (.t 56)⟩,
  ⟨some 9, none, false, .mv (.t 57)⟩]

def f_rock_bedded_flows_r9 : List Abs.Op := [
  ⟨some 58, none, false, .mv (.t 9)⟩,
  ⟨some 59, none, false, .mv (.t 8)⟩,
  ⟨some 60, none, false, .bin .mul (.t 58) (.t 59)⟩,
  ⟨some 61, none, false, .bin .quo (.t 60) (.c (.int .i64 1000))⟩,
  ⟨some 62, none, false, .ld false 1 (.t 3)⟩,
  ⟨some 63, none, false, .fadr 0 (.t 7)⟩,
  ⟨some 64, none, false, .ldv 7 false 1 63⟩,
  ⟨some 65, none, false, .idxS 3 (.t 62) (.t 64)⟩,
  ⟨some 66, none, false, .fadr 0 (.t 65)⟩,
  ⟨some 67, none, false, .ld false 1 (.t 66)⟩,
  ⟨some 68, none, false, .bin .quo (.t 67) (.c (.int .i64 8))⟩,
  ⟨some 69, none, false, .mn (.t 61) (.t 68)⟩,
  ⟨some 10, none, false, .mv (.t 69)⟩]

def f_rock_bedded_flows_r10 : List Abs.Op := [
  ⟨some 70, none, false, .mv (.t 10)⟩,
  ⟨some 71, none, false, .bin .gtr (.t 70) (.c (.int .i64 0))⟩]

def f_rock_bedded_flows_r11 : List Abs.Op := [
  ⟨some 72, none, true, .ld false 1 (.t 5)⟩,
  ⟨some 73, none, true, .ldv 7 true 2 7⟩,
  ⟨some 74, none, true, .ld false 1 (.t 3)⟩,
  ⟨some 75, none, true, .fadr 0 (.t 7)⟩,
  ⟨some 76, none, true, .ldv 7 false 1 75⟩,
  ⟨some 77, none, true, .idxS 3 (.t 74) (.t 76)⟩,
  ⟨some 78, none, true, .ld true 3 (.t 77)⟩,
  ⟨some 79, none, true, .mv (.t 10)⟩,
  ⟨some 80, none, true, .call false (.c (.fn i_rock_Block_out [] [])) [(.t 78), (.t 79)]⟩,
  ⟨none, none, false, .mp (.put (some (true, [some .i64, some .i64]))) [(.t 72), (.t 73), (.t 80)]⟩]

def f_rock_bedded_flows_a12 : Abs.Cmd :=
  (.reg [2, 3, 5, 6, 7] f_rock_bedded_flows_r4)

def f_rock_bedded_flows_b12 : Abs.Cmd :=
  (.blk 1 (.seq (.reg [2, 3, 5, 7, 8] f_rock_bedded_flows_r5) (.seq (.seq (.reg [2, 3, 5, 7, 8, 41] f_rock_bedded_flows_r6) (.ite (.t 41) (.reg [2, 3, 5, 7, 8] f_rock_bedded_flows_r7) .nop)) (.seq (.reg [3, 5, 7, 8, 9] f_rock_bedded_flows_r8) (.seq (.reg [3, 5, 7, 10] f_rock_bedded_flows_r9) (.seq (.reg [3, 5, 7, 10, 71] f_rock_bedded_flows_r10) (.ite (.t 71) (.reg [] f_rock_bedded_flows_r11) .nop)))))))

def f_rock_bedded_flows_r13 : List Abs.Op := [
  ⟨some 81, none, false, .ld false 1 (.t 5)⟩,
  ⟨some 4, none, false, .mv (.t 81)⟩]

def a_rock_bedded_flows : Ann := ⟨[(12, [4]), (11, []), (10, [3, 5, 7, 10, 71]), (9, [3, 5, 7, 10]), (8, [3, 5, 7, 8, 9]), (7, [2, 3, 5, 7, 8]), (6, [2, 3, 5, 7, 8, 41]), (5, [2, 3, 5, 7, 8]), (4, [2, 3, 5, 6, 7]), (3, [2, 3, 4, 5, 6, 17]), (2, [2, 3, 4, 5, 6]), (1, [2, 3, 4, 5]), (0, [2, 3, 4])], [(0, [2, 3, 4, 5, 6])], [], [5, 6, 7], [7], [], [], [], [], [], []⟩
def f_rock_bedded_flows : Abs.Fn := ⟨2, [.t 4],
  (.seq (.reg [2, 3, 4] f_rock_bedded_flows_r0) (.seq (.reg [2, 3, 4, 5] f_rock_bedded_flows_r1) (.seq (.reg [2, 3, 4, 5, 6] f_rock_bedded_flows_r2) (.seq (.seq (.reg [2, 3, 4, 5, 6, 17] f_rock_bedded_flows_r3) (.blk 0 (.rngf [2, 3, 4, 5, 6] (.t 17) [18] f_rock_bedded_flows_a12 f_rock_bedded_flows_b12))) (.seq (.reg [4] f_rock_bedded_flows_r13) .ret)))))⟩

@[simp] theorem e_rock_bedded_flows_r0 : type_of% f_rock_bedded_flows_r0.eq_1 := by_rfl f_rock_bedded_flows_r0.eq_1
@[simp] theorem e_rock_bedded_flows_r1 : type_of% f_rock_bedded_flows_r1.eq_1 := by_rfl f_rock_bedded_flows_r1.eq_1
@[simp] theorem e_rock_bedded_flows_r2 : type_of% f_rock_bedded_flows_r2.eq_1 := by_rfl f_rock_bedded_flows_r2.eq_1
@[simp] theorem e_rock_bedded_flows_r3 : type_of% f_rock_bedded_flows_r3.eq_1 := by_rfl f_rock_bedded_flows_r3.eq_1
@[simp] theorem e_rock_bedded_flows_r4 : type_of% f_rock_bedded_flows_r4.eq_1 := by_rfl f_rock_bedded_flows_r4.eq_1
@[simp] theorem e_rock_bedded_flows_r5 : type_of% f_rock_bedded_flows_r5.eq_1 := by_rfl f_rock_bedded_flows_r5.eq_1
@[simp] theorem e_rock_bedded_flows_r6 : type_of% f_rock_bedded_flows_r6.eq_1 := by_rfl f_rock_bedded_flows_r6.eq_1
@[simp] theorem e_rock_bedded_flows_r7 : type_of% f_rock_bedded_flows_r7.eq_1 := by_rfl f_rock_bedded_flows_r7.eq_1
@[simp] theorem e_rock_bedded_flows_r8 : type_of% f_rock_bedded_flows_r8.eq_1 := by_rfl f_rock_bedded_flows_r8.eq_1
@[simp] theorem e_rock_bedded_flows_r9 : type_of% f_rock_bedded_flows_r9.eq_1 := by_rfl f_rock_bedded_flows_r9.eq_1
@[simp] theorem e_rock_bedded_flows_r10 : type_of% f_rock_bedded_flows_r10.eq_1 := by_rfl f_rock_bedded_flows_r10.eq_1
@[simp] theorem e_rock_bedded_flows_r11 : type_of% f_rock_bedded_flows_r11.eq_1 := by_rfl f_rock_bedded_flows_r11.eq_1
theorem e_rock_bedded_flows_a12 : type_of% f_rock_bedded_flows_a12.eq_1 := by_rfl f_rock_bedded_flows_a12.eq_1
theorem e_rock_bedded_flows_b12 : type_of% f_rock_bedded_flows_b12.eq_1 := by_rfl f_rock_bedded_flows_b12.eq_1
@[simp] theorem e_rock_bedded_flows_r13 : type_of% f_rock_bedded_flows_r13.eq_1 := by_rfl f_rock_bedded_flows_r13.eq_1
theorem e_rock_bedded_flows : type_of% f_rock_bedded_flows.eq_1 := by_rfl f_rock_bedded_flows.eq_1
theorem ok_rock_bedded_flows : fnC Try.prog a_rock_bedded_flows Try.f61 = some f_rock_bedded_flows := by kernel_rfl

/-! 62 (*fumarole/rock.Block).move -/
def f_rock_Block_move_r0 : List Abs.Op := [
  ⟨some 4, none, false, .boxi (.t 1)⟩]

def f_rock_Block_move_r1 : List Abs.Op := [
  ⟨some 6, none, true, .mv (.t 0)⟩,
  ⟨some 7, none, true, .nck (.t 6)⟩,
  ⟨some 8, none, true, .fadr 0 (.t 7)⟩,
  ⟨some 9, none, true, .ld false 1 (.t 8)⟩,
  ⟨some 10, none, true, .mv (.t 2)⟩,
  ⟨some 11, none, true, .fadr 0 (.t 4)⟩,
  ⟨some 12, none, true, .ld false 1 (.t 11)⟩,
  ⟨some 13, none, true, .bin .mul (.t 10) (.t 12)⟩,
  ⟨some 14, none, false, .bin .add (.t 9) (.t 13)⟩,
  ⟨some 15, none, false, .nck (.t 6)⟩,
  ⟨some 16, none, false, .fadr 0 (.t 15)⟩,
  ⟨none, none, false, .st [] 1 (.t 16) (.t 14)⟩]

def f_rock_Block_move_r2 : List Abs.Op := [
  ⟨some 17, none, true, .mv (.t 0)⟩,
  ⟨some 18, none, true, .nck (.t 17)⟩,
  ⟨some 19, none, true, .fadr 1 (.t 18)⟩,
  ⟨some 20, none, true, .ld false 1 (.t 19)⟩,
  ⟨some 21, none, true, .mv (.t 2)⟩,
  ⟨some 22, none, true, .fadr 1 (.t 4)⟩,
  ⟨some 23, none, true, .ld false 1 (.t 22)⟩,
  ⟨some 24, none, true, .bin .mul (.t 21) (.t 23)⟩,
  ⟨some 25, none, false, .bin .add (.t 20) (.t 24)⟩,
  ⟨some 26, none, false, .nck (.t 17)⟩,
  ⟨some 27, none, false, .fadr 1 (.t 26)⟩,
  ⟨none, none, false, .st [] 1 (.t 27) (.t 25)⟩]

def f_rock_Block_move_r3 : List Abs.Op := [
  ⟨some 28, none, true, .mv (.t 0)⟩,
  ⟨some 29, none, true, .nck (.t 28)⟩,
  ⟨some 30, none, true, .fadr 2 (.t 29)⟩,
  ⟨some 31, none, true, .ld false 1 (.t 30)⟩,
  ⟨some 32, none, true, .mv (.t 2)⟩,
  ⟨some 33, none, true, .fadr 2 (.t 4)⟩,
  ⟨some 34, none, true, .ld false 1 (.t 33)⟩,
  ⟨some 35, none, true, .bin .mul (.t 32) (.t 34)⟩,
  ⟨some 36, none, false, .bin .add (.t 31) (.t 35)⟩,
  ⟨some 37, none, false, .nck (.t 28)⟩,
  ⟨some 38, none, false, .fadr 2 (.t 37)⟩,
  ⟨none, none, false, .st [] 1 (.t 38) (.t 36)⟩]

def a_rock_Block_move : Ann := ⟨[(3, []), (2, [0, 2, 4]), (1, [0, 2, 4]), (0, [0, 2, 4])], [], [], [0], [], [], [], [], [], [], []⟩
def f_rock_Block_move : Abs.Fn := ⟨3, [],
  (.seq (.reg [0, 2, 4] f_rock_Block_move_r0) (.seq (.reg [0, 2, 4] f_rock_Block_move_r1) (.seq (.reg [0, 2, 4] f_rock_Block_move_r2) (.reg [] f_rock_Block_move_r3))))⟩

@[simp] theorem e_rock_Block_move_r0 : type_of% f_rock_Block_move_r0.eq_1 := by_rfl f_rock_Block_move_r0.eq_1
@[simp] theorem e_rock_Block_move_r1 : type_of% f_rock_Block_move_r1.eq_1 := by_rfl f_rock_Block_move_r1.eq_1
@[simp] theorem e_rock_Block_move_r2 : type_of% f_rock_Block_move_r2.eq_1 := by_rfl f_rock_Block_move_r2.eq_1
@[simp] theorem e_rock_Block_move_r3 : type_of% f_rock_Block_move_r3.eq_1 := by_rfl f_rock_Block_move_r3.eq_1
theorem e_rock_Block_move : type_of% f_rock_Block_move.eq_1 := by_rfl f_rock_Block_move.eq_1
theorem ok_rock_Block_move : fnC Try.prog a_rock_Block_move Try.f62 = some f_rock_Block_move := by kernel_rfl

/-! 63 (fumarole/rock.Bore).given -/
def f_rock_Bore_given_r0 : List Abs.Op := [
  ⟨some 2, none, false, .boxi (.t 0)⟩,
  ⟨some 4, none, false, .alcv [] [(.int .i64 0), (.int .i64 0), (.int .i64 0)]⟩]

def f_rock_Bore_given_r1 : List Abs.Op := [
  ⟨some 5, none, false, .mv (.t 1)⟩,
  ⟨some 6, none, false, .un .neg (.t 5)⟩,
  ⟨some 7, none, false, .mv (.t 1)⟩,
  ⟨some 8, none, false, .un .neg (.t 7)⟩,
  ⟨some 9, none, false, .fadr 1 (.t 2)⟩,
  ⟨some 10, none, false, .ld false 1 (.t 9)⟩,
  ⟨some 11, none, false, .bin .mul (.t 8) (.t 10)⟩,
  ⟨some 12, none, false, .mv (.t 1)⟩,
  ⟨some 13, none, false, .un .neg (.t 12)⟩,
  ⟨some 14, none, false, .fadr 2 (.t 2)⟩,
  ⟨some 15, none, false, .ld false 1 (.t 14)⟩,
  ⟨some 16, none, false, .bin .mul (.t 13) (.t 15)⟩,
  ⟨some 17, none, false, .bld [(.int .i64 0), (.int .i64 0), (.int .i64 0)] [(0, 1, (.t 6)), (1, 1, (.t 11)), (2, 1, (.t 16))]⟩,
  ⟨none, none, false, .stv 4 [] 3 4 (.t 17)⟩]

def a_rock_Bore_given : Ann := ⟨[(1, [4]), (0, [1, 2, 4])], [], [], [4], [4], [], [], [], [], [], []⟩
def f_rock_Bore_given : Abs.Fn := ⟨2, [.v 4 true 3],
  (.seq (.reg [1, 2, 4] f_rock_Bore_given_r0) (.seq (.reg [4] f_rock_Bore_given_r1) .ret))⟩

@[simp] theorem e_rock_Bore_given_r0 : type_of% f_rock_Bore_given_r0.eq_1 := by_rfl f_rock_Bore_given_r0.eq_1
@[simp] theorem e_rock_Bore_given_r1 : type_of% f_rock_Bore_given_r1.eq_1 := by_rfl f_rock_Bore_given_r1.eq_1
theorem e_rock_Bore_given : type_of% f_rock_Bore_given.eq_1 := by_rfl f_rock_Bore_given.eq_1
theorem ok_rock_Bore_given : fnC Try.prog a_rock_Bore_given Try.f63 = some f_rock_Bore_given := by kernel_rfl

/-! 64 (fumarole/rock.Block).out -/
def f_rock_Block_out_r0 : List Abs.Op := [
  ⟨some 2, none, false, .boxi (.t 0)⟩,
  ⟨some 4, none, false, .alcv [] [(.int .i64 0), (.int .i64 0), (.int .i64 0)]⟩]

def f_rock_Block_out_r1 : List Abs.Op := [
  ⟨some 5, none, true, .mv (.t 1)⟩,
  ⟨some 6, none, true, .fadr 1 (.t 2)⟩,
  ⟨some 7, none, true, .ld false 1 (.t 6)⟩,
  ⟨some 8, none, true, .mv (.t 1)⟩,
  ⟨some 9, none, true, .bin .mul (.t 7) (.t 8)⟩,
  ⟨some 10, none, true, .fadr 0 (.t 2)⟩,
  ⟨some 11, none, true, .ld false 1 (.t 10)⟩,
  ⟨some 12, none, true, .bin .quo (.t 9) (.t 11)⟩,
  ⟨some 13, none, true, .fadr 2 (.t 2)⟩,
  ⟨some 14, none, true, .ld false 1 (.t 13)⟩,
  ⟨some 15, none, true, .mv (.t 1)⟩,
  ⟨some 16, none, true, .bin .mul (.t 14) (.t 15)⟩,
  ⟨some 17, none, true, .fadr 0 (.t 2)⟩,
  ⟨some 18, none, true, .ld false 1 (.t 17)⟩,
  ⟨some 19, none, true, .bin .quo (.t 16) (.t 18)⟩,
  ⟨some 20, none, false, .bld [(.int .i64 0), (.int .i64 0), (.int .i64 0)] [(0, 1, (.t 5)), (1, 1, (.t 12)), (2, 1, (.t 19))]⟩,
  ⟨none, none, false, .stv 4 [] 3 4 (.t 20)⟩]

def a_rock_Block_out : Ann := ⟨[(1, [4]), (0, [1, 2, 4])], [], [], [4], [4], [], [], [], [], [], []⟩
def f_rock_Block_out : Abs.Fn := ⟨2, [.v 4 true 3],
  (.seq (.reg [1, 2, 4] f_rock_Block_out_r0) (.seq (.reg [4] f_rock_Block_out_r1) .ret))⟩

@[simp] theorem e_rock_Block_out_r0 : type_of% f_rock_Block_out_r0.eq_1 := by_rfl f_rock_Block_out_r0.eq_1
@[simp] theorem e_rock_Block_out_r1 : type_of% f_rock_Block_out_r1.eq_1 := by_rfl f_rock_Block_out_r1.eq_1
theorem e_rock_Block_out : type_of% f_rock_Block_out.eq_1 := by_rfl f_rock_Block_out.eq_1
theorem ok_rock_Block_out : fnC Try.prog a_rock_Block_out Try.f64 = some f_rock_Block_out := by kernel_rfl

/-! 65 (fumarole/rock.bedded).fed -/
def f_rock_bedded_fed_r0 : List Abs.Op := [
  ⟨some 2, none, false, .boxi (.t 0)⟩,
  ⟨some 4, none, false, .alcv [] [(.int .i64 0), (.int .i64 0), (.int .i64 0)]⟩]

def f_rock_bedded_fed_r1 : List Abs.Op := [
  ⟨some 5, none, true, .ld true 11 (.t 2)⟩,
  ⟨some 6, none, true, .mv (.t 1)⟩,
  ⟨some 7, none, true, .call false (.c (.fn i_rock_bedded_feed [] [])) [(.t 5), (.t 6)]⟩,
  ⟨some 8, none, true, .ld true 11 (.t 2)⟩,
  ⟨some 9, none, true, .mv (.t 1)⟩,
  ⟨some 10, none, true, .call false (.c (.fn i_rock_bedded_feed [] [])) [(.t 8), (.t 9)]⟩,
  ⟨some 11, none, true, .fadr 0 (.t 2)⟩,
  ⟨some 12, none, true, .fadr 7 (.t 11)⟩,
  ⟨some 13, none, true, .ld false 1 (.t 12)⟩,
  ⟨some 14, none, false, .bin .mul (.t 10) (.t 13)⟩,
  ⟨some 15, none, false, .bld [(.int .i64 0), (.int .i64 0), (.int .i64 0)] [(0, 1, (.t 7)), (1, 1, (.t 14))]⟩,
  ⟨none, none, false, .stv 4 [] 3 4 (.t 15)⟩]

def a_rock_bedded_fed : Ann := ⟨[(1, [4]), (0, [1, 2, 4])], [], [], [4], [4], [], [], [], [], [], []⟩
def f_rock_bedded_fed : Abs.Fn := ⟨2, [.v 4 true 3],
  (.seq (.reg [1, 2, 4] f_rock_bedded_fed_r0) (.seq (.reg [4] f_rock_bedded_fed_r1) .ret))⟩

@[simp] theorem e_rock_bedded_fed_r0 : type_of% f_rock_bedded_fed_r0.eq_1 := by_rfl f_rock_bedded_fed_r0.eq_1
@[simp] theorem e_rock_bedded_fed_r1 : type_of% f_rock_bedded_fed_r1.eq_1 := by_rfl f_rock_bedded_fed_r1.eq_1
theorem e_rock_bedded_fed : type_of% f_rock_bedded_fed.eq_1 := by_rfl f_rock_bedded_fed.eq_1
theorem ok_rock_bedded_fed : fnC Try.prog a_rock_bedded_fed Try.f65 = some f_rock_bedded_fed := by kernel_rfl

/-! 66 slices.ContainsFunc[[]fumarole/rock.Block,fumarole/rock.Block] -/
def f_slices_ContainsFunc_rock_Block_r0 : List Abs.Op := [
  ⟨some 4, none, false, .mv (.c (.bool false))⟩]

def f_slices_ContainsFunc_rock_Block_r1 : List Abs.Op := [
  ⟨some 5, none, false, .mv (.t 0)⟩,
  ⟨some 6, none, false, .mv (.t 1)⟩,
  ⟨some 7, none, false, .call false (.c (.fn i_slices_IndexFunc_rock_Block [] [])) [(.t 5), (.t 6)]⟩,
  ⟨some 8, none, false, .bin .geq (.t 7) (.c (.int .i64 0))⟩,
  ⟨some 4, none, false, .mv (.t 8)⟩]

def a_slices_ContainsFunc_rock_Block : Ann := ⟨[(1, [4]), (0, [0, 1])], [], [], [], [], [], [], [], [], [], []⟩
def f_slices_ContainsFunc_rock_Block : Abs.Fn := ⟨2, [.t 4],
  (.seq (.reg [0, 1] f_slices_ContainsFunc_rock_Block_r0) (.seq (.reg [4] f_slices_ContainsFunc_rock_Block_r1) .ret))⟩

@[simp] theorem e_slices_ContainsFunc_rock_Block_r0 : type_of% f_slices_ContainsFunc_rock_Block_r0.eq_1 := by_rfl f_slices_ContainsFunc_rock_Block_r0.eq_1
@[simp] theorem e_slices_ContainsFunc_rock_Block_r1 : type_of% f_slices_ContainsFunc_rock_Block_r1.eq_1 := by_rfl f_slices_ContainsFunc_rock_Block_r1.eq_1
theorem e_slices_ContainsFunc_rock_Block : type_of% f_slices_ContainsFunc_rock_Block.eq_1 := by_rfl f_slices_ContainsFunc_rock_Block.eq_1
theorem ok_slices_ContainsFunc_rock_Block : fnC Try.prog a_slices_ContainsFunc_rock_Block Try.f66 = some f_slices_ContainsFunc_rock_Block := by kernel_rfl

/-! 67 fumarole/rock.all[fumarole/rock.Block]$1 -/
def f_rock_all_rock_Block_1_r0 : List Abs.Op := [
  ⟨some 2, none, false, .boxi (.t 0)⟩,
  ⟨some 3, none, false, .mv (.c (.bool false))⟩]

def f_rock_all_rock_Block_1_r1 : List Abs.Op := [
  ⟨some 4, none, false, .ld false 1 (.t 1)⟩,
  ⟨some 5, none, false, .ld true 3 (.t 2)⟩,
  ⟨some 6, none, false, .call false (.t 4) [(.t 5)]⟩,
  ⟨some 7, none, false, .un .not (.t 6)⟩,
  ⟨some 3, none, false, .mv (.t 7)⟩]

def a_rock_all_rock_Block_1 : Ann := ⟨[(1, [3]), (0, [1, 2])], [], [], [], [], [], [], [], [], [], []⟩
def f_rock_all_rock_Block_1 : Abs.Fn := ⟨2, [.t 3],
  (.seq (.reg [1, 2] f_rock_all_rock_Block_1_r0) (.seq (.reg [3] f_rock_all_rock_Block_1_r1) .ret))⟩

@[simp] theorem e_rock_all_rock_Block_1_r0 : type_of% f_rock_all_rock_Block_1_r0.eq_1 := by_rfl f_rock_all_rock_Block_1_r0.eq_1
@[simp] theorem e_rock_all_rock_Block_1_r1 : type_of% f_rock_all_rock_Block_1_r1.eq_1 := by_rfl f_rock_all_rock_Block_1_r1.eq_1
theorem e_rock_all_rock_Block_1 : type_of% f_rock_all_rock_Block_1.eq_1 := by_rfl f_rock_all_rock_Block_1.eq_1
theorem ok_rock_all_rock_Block_1 : fnC Try.prog a_rock_all_rock_Block_1 Try.f67 = some f_rock_all_rock_Block_1 := by kernel_rfl

/-! 68 (fumarole/rock.bedded).weight -/
def f_rock_bedded_weight_r0 : List Abs.Op := [
  ⟨some 2, none, false, .boxi (.t 0)⟩,
  ⟨some 4, none, false, .mv (.c (.int .i64 0))⟩]

def f_rock_bedded_weight_r1 : List Abs.Op := [
  ⟨some 5, none, true, .mv (.t 1)⟩,
  ⟨some 6, none, true, .fadr 0 (.t 2)⟩,
  ⟨some 7, none, true, .fadr 0 (.t 6)⟩,
  ⟨some 8, none, true, .fadr 0 (.t 7)⟩,
  ⟨some 9, none, true, .ld false 1 (.t 8)⟩,
  ⟨some 10, none, true, .fadr 0 (.t 2)⟩,
  ⟨some 11, none, true, .fadr 0 (.t 10)⟩,
  ⟨some 12, none, true, .fadr 1 (.t 11)⟩,
  ⟨some 13, none, true, .ld false 1 (.t 12)⟩,
  ⟨some 14, none, true, .bin .mul (.t 9) (.t 13)⟩,
  ⟨some 15, none, true, .bin .quo (.t 5) (.t 14)⟩,
  ⟨some 16, none, true, .fadr 0 (.t 2)⟩,
  ⟨some 17, none, true, .fadr 6 (.t 16)⟩,
  ⟨some 18, none, true, .ld false 1 (.t 17)⟩,
  ⟨some 19, none, false, .bin .mul (.t 15) (.t 18)⟩,
  ⟨some 4, none, false, .mv (.t 19)⟩]

def a_rock_bedded_weight : Ann := ⟨[(1, [4]), (0, [1, 2])], [], [], [], [], [], [], [], [], [], []⟩
def f_rock_bedded_weight : Abs.Fn := ⟨2, [.t 4],
  (.seq (.reg [1, 2] f_rock_bedded_weight_r0) (.seq (.reg [4] f_rock_bedded_weight_r1) .ret))⟩

@[simp] theorem e_rock_bedded_weight_r0 : type_of% f_rock_bedded_weight_r0.eq_1 := by_rfl f_rock_bedded_weight_r0.eq_1
@[simp] theorem e_rock_bedded_weight_r1 : type_of% f_rock_bedded_weight_r1.eq_1 := by_rfl f_rock_bedded_weight_r1.eq_1
theorem e_rock_bedded_weight : type_of% f_rock_bedded_weight.eq_1 := by_rfl f_rock_bedded_weight.eq_1
theorem ok_rock_bedded_weight : fnC Try.prog a_rock_bedded_weight Try.f68 = some f_rock_bedded_weight := by kernel_rfl

/-! 69 fumarole/rock.down -/
def f_rock_down_r0 : List Abs.Op := [
  ⟨some 4, none, false, .mv (.c (.int .i64 0))⟩]

def f_rock_down_r1 : List Abs.Op := [
  ⟨some 6, none, false, .mv (.t 0)⟩,
  ⟨some 7, none, false, .mv (.t 1)⟩,
  ⟨some 8, none, false, .bin .quo (.t 6) (.t 7)⟩,
  ⟨some 5, none, false, .mv (.t 8)⟩]

def f_rock_down_r2 : List Abs.Op := [
  ⟨some 9, none, false, .mv (.t 5)⟩,
  ⟨some 10, none, false, .mv (.t 1)⟩,
  ⟨some 11, none, false, .bin .mul (.t 9) (.t 10)⟩,
  ⟨some 12, none, false, .mv (.t 0)⟩,
  ⟨some 13, none, false, .bin .gtr (.t 11) (.t 12)⟩]

def f_rock_down_r3 : List Abs.Op := [
  ⟨some 14, none, false, .mv (.t 5)⟩,
  ⟨some 15, none, false, .bin .sub (.t 14) (.c (.int .i64 1))⟩,
  ⟨some 5, none, false, .mv (.t 15)⟩]

def f_rock_down_r4 : List Abs.Op := [
  ⟨some 16, none, false, .mv (.t 5)⟩,
  ⟨some 4, none, false, .mv (.t 16)⟩]

def a_rock_down : Ann := ⟨[(4, [4]), (3, [5]), (2, [5, 13]), (1, [0, 1, 5]), (0, [0, 1])], [], [], [], [], [], [], [], [], [], []⟩
def f_rock_down : Abs.Fn := ⟨2, [.t 4],
  (.seq (.reg [0, 1] f_rock_down_r0) (.seq (.reg [0, 1, 5] f_rock_down_r1) (.seq (.seq (.reg [5, 13] f_rock_down_r2) (.ite (.t 13) (.reg [5] f_rock_down_r3) .nop)) (.seq (.reg [4] f_rock_down_r4) .ret))))⟩

@[simp] theorem e_rock_down_r0 : type_of% f_rock_down_r0.eq_1 := by_rfl f_rock_down_r0.eq_1
@[simp] theorem e_rock_down_r1 : type_of% f_rock_down_r1.eq_1 := by_rfl f_rock_down_r1.eq_1
@[simp] theorem e_rock_down_r2 : type_of% f_rock_down_r2.eq_1 := by_rfl f_rock_down_r2.eq_1
@[simp] theorem e_rock_down_r3 : type_of% f_rock_down_r3.eq_1 := by_rfl f_rock_down_r3.eq_1
@[simp] theorem e_rock_down_r4 : type_of% f_rock_down_r4.eq_1 := by_rfl f_rock_down_r4.eq_1
theorem e_rock_down : type_of% f_rock_down.eq_1 := by_rfl f_rock_down.eq_1
theorem ok_rock_down : fnC Try.prog a_rock_down Try.f69 = some f_rock_down := by kernel_rfl

/-! 70 (fumarole/trial.Test).sets$1 -/
def f_trial_Test_sets_1_r0 : List Abs.Op := [
  ⟨some 2, none, false, .boxi (.t 0)⟩]

def f_trial_Test_sets_1_r1 : List Abs.Op := [
  ⟨some 6, none, false, .ld true 7 (.t 1)⟩,
  ⟨some 7, none, false, .call true (.c (.fn i_trial_Test_rooms [] [])) [(.t 6)]⟩]

def f_trial_Test_sets_1_r2 : List Abs.Op := [
  ⟨some 3, none, false, .alcv [] [(.int .i64 0), (.int .i64 0), (.int .i64 0)]⟩,
  ⟨none, none, false, .stv 3 [] 3 3 (.t 8)⟩]

def f_trial_Test_sets_1_r3 : List Abs.Op := [
  ⟨some 4, none, false, .mv (.t 9)⟩]

def f_trial_Test_sets_1_r4 : List Abs.Op := [
  ⟨some 10, none, false, .mv (.t 4)⟩,
  ⟨some 11, none, false, .call false (.c (.fn i_trial_meet [] [])) [(.t 10)]⟩,
  ⟨some 5, none, false, .alcv [] [(.int .i64 0), (.int .i64 0)]⟩,
  ⟨none, none, false, .stv 5 [] 2 5 (.t 11)⟩]

def f_trial_Test_sets_1_r5 : List Abs.Op := [
  ⟨some 12, none, false, .fadr 0 (.t 5)⟩,
  ⟨some 13, none, false, .ldv 5 false 1 12⟩,
  ⟨some 14, none, false, .fadr 1 (.t 5)⟩,
  ⟨some 15, none, false, .ldv 5 false 1 14⟩,
  ⟨some 16, none, false, .bin .leq (.t 13) (.t 15)⟩,
  ⟨some 17, none, false, .mv (.t 16)⟩,
  ⟨some 18, some (17, true), false, .ld false 1 (.t 2)⟩,
  ⟨some 19, some (17, true), false, .ldv 3 true 3 3⟩,
  ⟨some 20, some (17, true), false, .ldv 5 true 2 5⟩,
  ⟨some 21, some (17, true), false, .call false (.t 18) [(.t 19), (.t 20)]⟩,
  ⟨some 22, some (17, true), false, .un .not (.t 21)⟩,
  ⟨some 23, none, false, .pick (.t 17) (.t 22) (.c (.bool false))⟩]

def f_trial_Test_sets_1_a6 : Abs.Cmd :=
  (.seq (.reg [2, 3, 9] f_trial_Test_sets_1_r2) (.reg [2, 3, 4] f_trial_Test_sets_1_r3))

def f_trial_Test_sets_1_b6 : Abs.Cmd :=
  (.blk 1 (.seq (.reg [2, 3, 5] f_trial_Test_sets_1_r4) (.seq (.reg [23] f_trial_Test_sets_1_r5) (.ite (.t 23) .ret .nop))))

def a_trial_Test_sets_1 : Ann := ⟨[(5, [23]), (4, [2, 3, 5]), (3, [2, 3, 4]), (2, [2, 3, 9]), (1, [2, 7]), (0, [1, 2])], [(0, [2])], [], [3, 5], [3, 5], [], [1001], [], [], [], []⟩
def f_trial_Test_sets_1 : Abs.Fn := ⟨2, [],
  (.seq (.reg [1, 2] f_trial_Test_sets_1_r0) (.seq (.reg [2, 7] f_trial_Test_sets_1_r1) (.blk 0 (.rngf [2] (.t 7) [8, 9] f_trial_Test_sets_1_a6 f_trial_Test_sets_1_b6))))⟩

@[simp] theorem e_trial_Test_sets_1_r0 : type_of% f_trial_Test_sets_1_r0.eq_1 := by_rfl f_trial_Test_sets_1_r0.eq_1
@[simp] theorem e_trial_Test_sets_1_r1 : type_of% f_trial_Test_sets_1_r1.eq_1 := by_rfl f_trial_Test_sets_1_r1.eq_1
@[simp] theorem e_trial_Test_sets_1_r2 : type_of% f_trial_Test_sets_1_r2.eq_1 := by_rfl f_trial_Test_sets_1_r2.eq_1
@[simp] theorem e_trial_Test_sets_1_r3 : type_of% f_trial_Test_sets_1_r3.eq_1 := by_rfl f_trial_Test_sets_1_r3.eq_1
@[simp] theorem e_trial_Test_sets_1_r4 : type_of% f_trial_Test_sets_1_r4.eq_1 := by_rfl f_trial_Test_sets_1_r4.eq_1
@[simp] theorem e_trial_Test_sets_1_r5 : type_of% f_trial_Test_sets_1_r5.eq_1 := by_rfl f_trial_Test_sets_1_r5.eq_1
theorem e_trial_Test_sets_1_a6 : type_of% f_trial_Test_sets_1_a6.eq_1 := by_rfl f_trial_Test_sets_1_a6.eq_1
theorem e_trial_Test_sets_1_b6 : type_of% f_trial_Test_sets_1_b6.eq_1 := by_rfl f_trial_Test_sets_1_b6.eq_1
theorem e_trial_Test_sets_1 : type_of% f_trial_Test_sets_1.eq_1 := by_rfl f_trial_Test_sets_1.eq_1
theorem ok_trial_Test_sets_1 : fnC Try.prog a_trial_Test_sets_1 Try.f70 = some f_trial_Test_sets_1 := by kernel_rfl

/-! 71 (fumarole/trial.Test).rooms -/
def f_trial_Test_rooms_r0 : List Abs.Op := [
  ⟨some 1, none, false, .boxi (.t 0)⟩,
  ⟨some 2, none, false, .mv (.c .nilf)⟩]

def f_trial_Test_rooms_r1 : List Abs.Op := [
  ⟨some 3, none, false, .mkf i_trial_Test_rooms_1 [] [(.t 1)]⟩,
  ⟨some 2, none, false, .mv (.t 3)⟩]

def a_trial_Test_rooms : Ann := ⟨[(1, [2]), (0, [1])], [], [], [], [], [], [], [], [], [], []⟩
def f_trial_Test_rooms : Abs.Fn := ⟨1, [.t 2],
  (.seq (.reg [1] f_trial_Test_rooms_r0) (.seq (.reg [2] f_trial_Test_rooms_r1) .ret))⟩

@[simp] theorem e_trial_Test_rooms_r0 : type_of% f_trial_Test_rooms_r0.eq_1 := by_rfl f_trial_Test_rooms_r0.eq_1
@[simp] theorem e_trial_Test_rooms_r1 : type_of% f_trial_Test_rooms_r1.eq_1 := by_rfl f_trial_Test_rooms_r1.eq_1
theorem e_trial_Test_rooms : type_of% f_trial_Test_rooms.eq_1 := by_rfl f_trial_Test_rooms.eq_1
theorem ok_trial_Test_rooms : fnC Try.prog a_trial_Test_rooms Try.f71 = some f_trial_Test_rooms := by kernel_rfl

/-! 72 fumarole/trial.meet -/
def f_trial_meet_r0 : List Abs.Op := [
  ⟨some 2, none, false, .alcv [] [(.int .i64 0), (.int .i64 0)]⟩]

def f_trial_meet_r1 : List Abs.Op := [
  ⟨some 6, none, false, .mv (.t 0)⟩,
  ⟨some 7, none, false, .idxS 2 (.t 6) (.c (.int .i64 0))⟩,
  ⟨some 8, none, false, .ld true 2 (.t 7)⟩,
  ⟨some 3, none, false, .alcv [] [(.int .i64 0), (.int .i64 0)]⟩,
  ⟨none, none, false, .stv 3 [] 2 3 (.t 8)⟩]

def f_trial_meet_r2 : List Abs.Op := [
  ⟨some 9, none, false, .mv (.t 0)⟩,
  ⟨some 10, none, false, .slc 2 (.t 9) (some (.c (.int .i64 1))) none none⟩,
  ⟨some 11, none, false, .lenS (.t 10)⟩,
  ⟨some 12, none, false, .mv (.c (.int .i64 0))⟩]

def f_trial_meet_r3 : List Abs.Op := [
  ⟨some 13, none, false, .bin .lss (.t 12) (.t 11)⟩]

def f_trial_meet_r4 : List Abs.Op := [
  ⟨some 14, none, false, .idxS 2 (.t 10) (.t 12)⟩,
  ⟨some 15, none, false, .ld true 2 (.t 14)⟩,
  ⟨some 5, none, false, .alcv [] [(.int .i64 0), (.int .i64 0)]⟩,
  ⟨none, none, false, .stv 5 [] 2 5 (.t 15)⟩]

def f_trial_meet_r5 : List Abs.Op := [
  ⟨some 16, none, false, .fadr 0 (.t 3)⟩,
  ⟨some 17, none, false, .ldv 3 false 1 16⟩,
  ⟨some 18, none, false, .fadr 0 (.t 5)⟩,
  ⟨some 19, none, false, .ldv 5 false 1 18⟩,
  ⟨some 20, none, false, .mx (.t 17) (.t 19)⟩,
  ⟨some 21, none, false, .fadr 1 (.t 3)⟩,
  ⟨some 22, none, false, .ldv 3 false 1 21⟩,
  ⟨some 23, none, false, .fadr 1 (.t 5)⟩,
  ⟨some 24, none, false, .ldv 5 false 1 23⟩,
  ⟨some 25, none, false, .mn (.t 22) (.t 24)⟩,
  ⟨some 26, none, false, .bld [(.int .i64 0), (.int .i64 0)] [(0, 1, (.t 20)), (1, 1, (.t 25))]⟩,
  ⟨none, none, false, .stv 3 [] 2 3 (.t 26)⟩]

def f_trial_meet_r6 : List Abs.Op := [
  ⟨some 27, none, false, .bin .add (.t 12) (.c (.int .i64 1))⟩,
  ⟨some 12, none, false, .mv (.t 27)⟩]

def f_trial_meet_l7 : Abs.Cmd :=
  (.seq (.reg [2, 3, 10, 11, 12, 13] f_trial_meet_r3) (.seq (.ite (.t 13) .nop (.exit 0)) (.seq (.blk 1 (.seq (.reg [2, 3, 5, 10, 11, 12] f_trial_meet_r4) (.reg [2, 3, 10, 11, 12] f_trial_meet_r5))) (.reg [2, 3, 10, 11, 12] f_trial_meet_r6))))

def f_trial_meet_r8 : List Abs.Op := [
  ⟨some 28, none, false, .ldv 3 true 2 3⟩,
  ⟨none, none, false, .stv 2 [] 2 2 (.t 28)⟩]

def a_trial_meet : Ann := ⟨[(7, [2]), (6, [2, 3, 10, 11, 12]), (5, [2, 3, 10, 11, 12]), (4, [2, 3, 5, 10, 11, 12]), (3, [2, 3, 10, 11, 12, 13]), (2, [2, 3, 10, 11, 12]), (1, [0, 2, 3]), (0, [0, 2])], [(0, [2, 3, 10, 11, 12])], [], [2, 3, 5], [2, 3, 5], [], [], [], [], [], []⟩
def f_trial_meet : Abs.Fn := ⟨1, [.v 2 true 2],
  (.seq (.reg [0, 2] f_trial_meet_r0) (.seq (.reg [0, 2, 3] f_trial_meet_r1) (.seq (.seq (.reg [2, 3, 10, 11, 12] f_trial_meet_r2) (.blk 0 (.loop [2, 3, 10, 11, 12] false f_trial_meet_l7))) (.seq (.reg [2] f_trial_meet_r8) .ret))))⟩

@[simp] theorem e_trial_meet_r0 : type_of% f_trial_meet_r0.eq_1 := by_rfl f_trial_meet_r0.eq_1
@[simp] theorem e_trial_meet_r1 : type_of% f_trial_meet_r1.eq_1 := by_rfl f_trial_meet_r1.eq_1
@[simp] theorem e_trial_meet_r2 : type_of% f_trial_meet_r2.eq_1 := by_rfl f_trial_meet_r2.eq_1
@[simp] theorem e_trial_meet_r3 : type_of% f_trial_meet_r3.eq_1 := by_rfl f_trial_meet_r3.eq_1
@[simp] theorem e_trial_meet_r4 : type_of% f_trial_meet_r4.eq_1 := by_rfl f_trial_meet_r4.eq_1
@[simp] theorem e_trial_meet_r5 : type_of% f_trial_meet_r5.eq_1 := by_rfl f_trial_meet_r5.eq_1
@[simp] theorem e_trial_meet_r6 : type_of% f_trial_meet_r6.eq_1 := by_rfl f_trial_meet_r6.eq_1
theorem e_trial_meet_l7 : type_of% f_trial_meet_l7.eq_1 := by_rfl f_trial_meet_l7.eq_1
@[simp] theorem e_trial_meet_r8 : type_of% f_trial_meet_r8.eq_1 := by_rfl f_trial_meet_r8.eq_1
theorem e_trial_meet : type_of% f_trial_meet.eq_1 := by_rfl f_trial_meet.eq_1
theorem ok_trial_meet : fnC Try.prog a_trial_meet Try.f72 = some f_trial_meet := by kernel_rfl

/-! 75 (fumarole/field.Field).shape -/
def f_field_Field_shape_r0 : List Abs.Op := [
  ⟨some 1, none, false, .boxi (.t 0)⟩,
  ⟨some 2, none, false, .mv (.c (.int .i64 0))⟩]

def f_field_Field_shape_r1 : List Abs.Op := [
  ⟨some 3, none, false, .ld true 4 (.t 1)⟩,
  ⟨some 4, none, false, .call false (.c (.fn i_field_Field_valid [] [])) [(.t 3)]⟩,
  ⟨some 5, none, false, .un .not (.t 4)⟩]

def f_field_Field_shape_r2 : List Abs.Op := [
  ⟨some 2, none, false, .mv (.c (.int .i64 1))⟩]

def f_field_Field_shape_r3 : List Abs.Op := [
  ⟨some 2, none, false, .mv (.c (.int .i64 0))⟩]

def a_field_Field_shape : Ann := ⟨[(3, [2]), (2, [2]), (1, [5]), (0, [1])], [], [], [], [], [], [], [], [], [], []⟩
def f_field_Field_shape : Abs.Fn := ⟨1, [.t 2],
  (.seq (.reg [1] f_field_Field_shape_r0) (.seq (.seq (.reg [5] f_field_Field_shape_r1) (.ite (.t 5) (.seq (.reg [2] f_field_Field_shape_r2) .ret) .nop)) (.seq (.reg [2] f_field_Field_shape_r3) .ret)))⟩

@[simp] theorem e_field_Field_shape_r0 : type_of% f_field_Field_shape_r0.eq_1 := by_rfl f_field_Field_shape_r0.eq_1
@[simp] theorem e_field_Field_shape_r1 : type_of% f_field_Field_shape_r1.eq_1 := by_rfl f_field_Field_shape_r1.eq_1
@[simp] theorem e_field_Field_shape_r2 : type_of% f_field_Field_shape_r2.eq_1 := by_rfl f_field_Field_shape_r2.eq_1
@[simp] theorem e_field_Field_shape_r3 : type_of% f_field_Field_shape_r3.eq_1 := by_rfl f_field_Field_shape_r3.eq_1
theorem e_field_Field_shape : type_of% f_field_Field_shape.eq_1 := by_rfl f_field_Field_shape.eq_1
theorem ok_field_Field_shape : fnC Try.prog a_field_Field_shape Try.f75 = some f_field_Field_shape := by kernel_rfl

/-! 76 (fumarole/steam.Table).valid -/
def f_steam_Table_valid_r0 : List Abs.Op := [
  ⟨some 2, none, false, .mv (.c (.bool false))⟩]

def f_steam_Table_valid_r1 : List Abs.Op := [
  ⟨some 6, none, false, .mv (.t 0)⟩,
  ⟨some 7, none, false, .lenS (.t 6)⟩,
  ⟨some 8, none, false, .call false (.c (.fn i_steam_within [] [])) [(.t 7), (.c (.int .i64 2)), (.c (.int .i64 20))]⟩,
  ⟨some 9, none, false, .un .not (.t 8)⟩,
  ⟨some 10, none, false, .mv (.t 9)⟩,
  ⟨some 11, some (10, false), false, .mv (.t 0)⟩,
  ⟨some 12, some (10, false), false, .call false (.c (.fn i_steam_all_steam_Row [] [])) [(.t 11), (.c (.fn i_steam_Row_alone [] []))]⟩,
  ⟨some 13, some (10, false), false, .un .not (.t 12)⟩,
  ⟨some 14, none, false, .pick (.t 10) (.c (.bool true)) (.t 13)⟩]

def f_steam_Table_valid_r2 : List Abs.Op := [
  ⟨some 2, none, false, .mv (.c (.bool false))⟩]

def f_steam_Table_valid_r3 : List Abs.Op := [
  ⟨some 15, none, false, .mv (.t 0)⟩,
  ⟨some 16, none, false, .slc 5 (.t 15) (some (.c (.int .i64 1))) none none⟩,
  ⟨some 17, none, false, .lenS (.t 16)⟩,
  ⟨some 18, none, false, .mv (.c (.int .i64 0))⟩]

def f_steam_Table_valid_r4 : List Abs.Op := [
  ⟨some 19, none, false, .bin .lss (.t 18) (.t 17)⟩]

def f_steam_Table_valid_r5 : List Abs.Op := [
  ⟨some 20, none, false, .mv (.t 18)⟩,
  ⟨some 21, none, false, .idxS 5 (.t 16) (.t 18)⟩,
  ⟨some 22, none, false, .ld true 5 (.t 21)⟩,
  ⟨some 4, none, false, .alcv [] [(.int .i64 0), (.int .i64 0), (.int .i64 0), (.int .i64 0), (.int .i64 0)]⟩,
  ⟨some 3, none, false, .mv (.t 20)⟩,
  ⟨none, none, false, .stv 4 [] 5 4 (.t 22)⟩]

def f_steam_Table_valid_r6 : List Abs.Op := [
  ⟨some 23, none, false, .mv (.t 0)⟩,
  ⟨some 24, none, false, .mv (.t 3)⟩,
  ⟨some 25, none, false, .idxS 5 (.t 23) (.t 24)⟩,
  ⟨some 26, none, false, .ld true 5 (.t 25)⟩,
  ⟨some 5, none, false, .alcv [] [(.int .i64 0), (.int .i64 0), (.int .i64 0), (.int .i64 0), (.int .i64 0)]⟩,
  ⟨none, none, false, .stv 5 [] 5 5 (.t 26)⟩]

def f_steam_Table_valid_r7 : List Abs.Op := [
  ⟨some 27, none, false, .fadr 0 (.t 4)⟩,
  ⟨some 28, none, false, .ldv 4 false 1 27⟩,
  ⟨some 29, none, false, .fadr 0 (.t 5)⟩,
  ⟨some 30, none, false, .ldv 5 false 1 29⟩,
  ⟨some 31, none, false, .bin .leq (.t 28) (.t 30)⟩,
  ⟨some 32, none, false, .mv (.t 31)⟩,
  ⟨some 33, some (32, false), false, .fadr 1 (.t 4)⟩,
  ⟨some 34, some (32, false), false, .ldv 4 false 1 33⟩,
  ⟨some 35, some (32, false), false, .fadr 1 (.t 5)⟩,
  ⟨some 36, some (32, false), false, .ldv 5 false 1 35⟩,
  ⟨some 37, some (32, false), false, .bin .leq (.t 34) (.t 36)⟩,
  ⟨some 38, none, false, .pick (.t 32) (.c (.bool true)) (.t 37)⟩,
  ⟨some 39, none, false, .mv (.t 38)⟩,
  ⟨some 40, some (39, false), false, .fadr 2 (.t 4)⟩,
  ⟨some 41, some (39, false), false, .ldv 4 false 1 40⟩,
  ⟨some 42, some (39, false), false, .fadr 2 (.t 5)⟩,
  ⟨some 43, some (39, false), false, .ldv 5 false 1 42⟩,
  ⟨some 44, some (39, false), false, .bin .leq (.t 41) (.t 43)⟩,
  ⟨some 45, none, false, .pick (.t 39) (.c (.bool true)) (.t 44)⟩,
  ⟨some 46, none, false, .mv (.t 45)⟩,
  ⟨some 47, some (46, false), false, .fadr 4 (.t 4)⟩,
  ⟨some 48, some (46, false), false, .ldv 4 false 1 47⟩,
  ⟨some 49, some (46, false), false, .fadr 4 (.t 5)⟩,
  ⟨some 50, some (46, false), false, .ldv 5 false 1 49⟩,
  ⟨some 51, some (46, false), false, .bin .lss (.t 48) (.t 50)⟩,
  ⟨some 52, none, false, .pick (.t 46) (.c (.bool true)) (.t 51)⟩]

def f_steam_Table_valid_r8 : List Abs.Op := [
  ⟨some 2, none, false, .mv (.c (.bool false))⟩]

def f_steam_Table_valid_r9 : List Abs.Op := [
  ⟨some 53, none, false, .bin .add (.t 18) (.c (.int .i64 1))⟩,
  ⟨some 18, none, false, .mv (.t 53)⟩]

def f_steam_Table_valid_l10 : Abs.Cmd :=
  (.seq (.reg [0, 16, 17, 18, 19] f_steam_Table_valid_r4) (.seq (.ite (.t 19) .nop (.exit 0)) (.seq (.blk 1 (.seq (.reg [0, 3, 4, 16, 17, 18] f_steam_Table_valid_r5) (.seq (.reg [0, 4, 5, 16, 17, 18] f_steam_Table_valid_r6) (.seq (.reg [0, 16, 17, 18, 52] f_steam_Table_valid_r7) (.ite (.t 52) (.seq (.reg [2] f_steam_Table_valid_r8) .ret) .nop))))) (.reg [0, 16, 17, 18] f_steam_Table_valid_r9))))

def f_steam_Table_valid_r11 : List Abs.Op := [
  ⟨some 2, none, false, .mv (.c (.bool true))⟩]

def a_steam_Table_valid : Ann := ⟨[(10, [2]), (9, [0, 16, 17, 18]), (8, [2]), (7, [0, 16, 17, 18, 52]), (6, [0, 4, 5, 16, 17, 18]), (5, [0, 3, 4, 16, 17, 18]), (4, [0, 16, 17, 18, 19]), (3, [0, 16, 17, 18]), (2, [2]), (1, [0, 14]), (0, [0])], [(0, [0, 16, 17, 18])], [], [4, 5], [4, 5], [], [], [], [], [], []⟩
def f_steam_Table_valid : Abs.Fn := ⟨1, [.t 2],
  (.seq (.reg [0] f_steam_Table_valid_r0) (.seq (.seq (.reg [0, 14] f_steam_Table_valid_r1) (.ite (.t 14) (.seq (.reg [2] f_steam_Table_valid_r2) .ret) .nop)) (.seq (.seq (.reg [0, 16, 17, 18] f_steam_Table_valid_r3) (.blk 0 (.loop [0, 16, 17, 18] false f_steam_Table_valid_l10))) (.seq (.reg [2] f_steam_Table_valid_r11) .ret))))⟩

@[simp] theorem e_steam_Table_valid_r0 : type_of% f_steam_Table_valid_r0.eq_1 := by_rfl f_steam_Table_valid_r0.eq_1
@[simp] theorem e_steam_Table_valid_r1 : type_of% f_steam_Table_valid_r1.eq_1 := by_rfl f_steam_Table_valid_r1.eq_1
@[simp] theorem e_steam_Table_valid_r2 : type_of% f_steam_Table_valid_r2.eq_1 := by_rfl f_steam_Table_valid_r2.eq_1
@[simp] theorem e_steam_Table_valid_r3 : type_of% f_steam_Table_valid_r3.eq_1 := by_rfl f_steam_Table_valid_r3.eq_1
@[simp] theorem e_steam_Table_valid_r4 : type_of% f_steam_Table_valid_r4.eq_1 := by_rfl f_steam_Table_valid_r4.eq_1
@[simp] theorem e_steam_Table_valid_r5 : type_of% f_steam_Table_valid_r5.eq_1 := by_rfl f_steam_Table_valid_r5.eq_1
@[simp] theorem e_steam_Table_valid_r6 : type_of% f_steam_Table_valid_r6.eq_1 := by_rfl f_steam_Table_valid_r6.eq_1
@[simp] theorem e_steam_Table_valid_r7 : type_of% f_steam_Table_valid_r7.eq_1 := by_rfl f_steam_Table_valid_r7.eq_1
@[simp] theorem e_steam_Table_valid_r8 : type_of% f_steam_Table_valid_r8.eq_1 := by_rfl f_steam_Table_valid_r8.eq_1
@[simp] theorem e_steam_Table_valid_r9 : type_of% f_steam_Table_valid_r9.eq_1 := by_rfl f_steam_Table_valid_r9.eq_1
theorem e_steam_Table_valid_l10 : type_of% f_steam_Table_valid_l10.eq_1 := by_rfl f_steam_Table_valid_l10.eq_1
@[simp] theorem e_steam_Table_valid_r11 : type_of% f_steam_Table_valid_r11.eq_1 := by_rfl f_steam_Table_valid_r11.eq_1
theorem e_steam_Table_valid : type_of% f_steam_Table_valid.eq_1 := by_rfl f_steam_Table_valid.eq_1
theorem ok_steam_Table_valid : fnC Try.prog a_steam_Table_valid Try.f76 = some f_steam_Table_valid := by kernel_rfl

/-! 77 slices.ContainsFunc[[]fumarole/rock.Bore,fumarole/rock.Bore] -/
def f_slices_ContainsFunc_rock_Bore_r0 : List Abs.Op := [
  ⟨some 4, none, false, .mv (.c (.bool false))⟩]

def f_slices_ContainsFunc_rock_Bore_r1 : List Abs.Op := [
  ⟨some 5, none, false, .mv (.t 0)⟩,
  ⟨some 6, none, false, .mv (.t 1)⟩,
  ⟨some 7, none, false, .call false (.c (.fn i_slices_IndexFunc_rock_Bore [] [])) [(.t 5), (.t 6)]⟩,
  ⟨some 8, none, false, .bin .geq (.t 7) (.c (.int .i64 0))⟩,
  ⟨some 4, none, false, .mv (.t 8)⟩]

def a_slices_ContainsFunc_rock_Bore : Ann := ⟨[(1, [4]), (0, [0, 1])], [], [], [], [], [], [], [], [], [], []⟩
def f_slices_ContainsFunc_rock_Bore : Abs.Fn := ⟨2, [.t 4],
  (.seq (.reg [0, 1] f_slices_ContainsFunc_rock_Bore_r0) (.seq (.reg [4] f_slices_ContainsFunc_rock_Bore_r1) .ret))⟩

@[simp] theorem e_slices_ContainsFunc_rock_Bore_r0 : type_of% f_slices_ContainsFunc_rock_Bore_r0.eq_1 := by_rfl f_slices_ContainsFunc_rock_Bore_r0.eq_1
@[simp] theorem e_slices_ContainsFunc_rock_Bore_r1 : type_of% f_slices_ContainsFunc_rock_Bore_r1.eq_1 := by_rfl f_slices_ContainsFunc_rock_Bore_r1.eq_1
theorem e_slices_ContainsFunc_rock_Bore : type_of% f_slices_ContainsFunc_rock_Bore.eq_1 := by_rfl f_slices_ContainsFunc_rock_Bore.eq_1
theorem ok_slices_ContainsFunc_rock_Bore : fnC Try.prog a_slices_ContainsFunc_rock_Bore Try.f77 = some f_slices_ContainsFunc_rock_Bore := by kernel_rfl

/-! 78 fumarole/rock.all[fumarole/rock.Bore]$1 -/
def f_rock_all_rock_Bore_1_r0 : List Abs.Op := [
  ⟨some 2, none, false, .boxi (.t 0)⟩,
  ⟨some 3, none, false, .mv (.c (.bool false))⟩]

def f_rock_all_rock_Bore_1_r1 : List Abs.Op := [
  ⟨some 4, none, false, .ld false 1 (.t 1)⟩,
  ⟨some 5, none, false, .ld true 3 (.t 2)⟩,
  ⟨some 6, none, false, .call false (.t 4) [(.t 5)]⟩,
  ⟨some 7, none, false, .un .not (.t 6)⟩,
  ⟨some 3, none, false, .mv (.t 7)⟩]

def a_rock_all_rock_Bore_1 : Ann := ⟨[(1, [3]), (0, [1, 2])], [], [], [], [], [], [], [], [], [], []⟩
def f_rock_all_rock_Bore_1 : Abs.Fn := ⟨2, [.t 3],
  (.seq (.reg [1, 2] f_rock_all_rock_Bore_1_r0) (.seq (.reg [3] f_rock_all_rock_Bore_1_r1) .ret))⟩

@[simp] theorem e_rock_all_rock_Bore_1_r0 : type_of% f_rock_all_rock_Bore_1_r0.eq_1 := by_rfl f_rock_all_rock_Bore_1_r0.eq_1
@[simp] theorem e_rock_all_rock_Bore_1_r1 : type_of% f_rock_all_rock_Bore_1_r1.eq_1 := by_rfl f_rock_all_rock_Bore_1_r1.eq_1
theorem e_rock_all_rock_Bore_1 : type_of% f_rock_all_rock_Bore_1.eq_1 := by_rfl f_rock_all_rock_Bore_1.eq_1
theorem ok_rock_all_rock_Bore_1 : fnC Try.prog a_rock_all_rock_Bore_1 Try.f78 = some f_rock_all_rock_Bore_1 := by kernel_rfl

/-! 79 fumarole/field.first -/
def f_field_first_r0 : List Abs.Op := [
  ⟨some 2, none, false, .mv (.c (.int .i64 0))⟩]

def f_field_first_r1 : List Abs.Op := [
  ⟨some 6, none, false, .mv (.t 0)⟩,
  ⟨some 7, none, false, .lenS (.t 6)⟩,
  ⟨some 8, none, false, .mv (.c (.int .i64 0))⟩]

def f_field_first_r2 : List Abs.Op := [
  ⟨some 9, none, false, .bin .lss (.t 8) (.t 7)⟩]

def f_field_first_r3 : List Abs.Op := [
  ⟨some 10, none, false, .idxS 1 (.t 6) (.t 8)⟩,
  ⟨some 11, none, false, .ld false 1 (.t 10)⟩,
  ⟨some 4, none, false, .mv (.t 11)⟩]

def f_field_first_r4 : List Abs.Op := [
  ⟨some 12, none, false, .mv (.t 4)⟩,
  ⟨some 13, none, false, .call false (.t 12) []⟩,
  ⟨some 5, none, false, .mv (.t 13)⟩]

def f_field_first_r5 : List Abs.Op := [
  ⟨some 14, none, false, .mv (.t 5)⟩,
  ⟨some 15, none, false, .bin .neq (.t 14) (.c (.int .i64 0))⟩]

def f_field_first_r6 : List Abs.Op := [
  ⟨some 16, none, false, .mv (.t 5)⟩,
  ⟨some 2, none, false, .mv (.t 16)⟩]

def f_field_first_r7 : List Abs.Op := [
  ⟨some 17, none, false, .bin .add (.t 8) (.c (.int .i64 1))⟩,
  ⟨some 8, none, false, .mv (.t 17)⟩]

def f_field_first_l8 : Abs.Cmd :=
  (.seq (.reg [6, 7, 8, 9] f_field_first_r2) (.seq (.ite (.t 9) .nop (.exit 0)) (.seq (.blk 1 (.seq (.reg [4, 6, 7, 8] f_field_first_r3) (.seq (.reg [5, 6, 7, 8] f_field_first_r4) (.seq (.reg [5, 6, 7, 8, 15] f_field_first_r5) (.ite (.t 15) (.seq (.reg [2] f_field_first_r6) .ret) .nop))))) (.reg [6, 7, 8] f_field_first_r7))))

def f_field_first_r9 : List Abs.Op := [
  ⟨some 2, none, false, .mv (.c (.int .i64 0))⟩]

def a_field_first : Ann := ⟨[(8, [2]), (7, [6, 7, 8]), (6, [2]), (5, [5, 6, 7, 8, 15]), (4, [5, 6, 7, 8]), (3, [4, 6, 7, 8]), (2, [6, 7, 8, 9]), (1, [6, 7, 8]), (0, [0])], [(0, [6, 7, 8])], [], [], [], [], [], [], [], [], []⟩
def f_field_first : Abs.Fn := ⟨1, [.t 2],
  (.seq (.reg [0] f_field_first_r0) (.seq (.seq (.reg [6, 7, 8] f_field_first_r1) (.blk 0 (.loop [6, 7, 8] false f_field_first_l8))) (.seq (.reg [2] f_field_first_r9) .ret)))⟩

@[simp] theorem e_field_first_r0 : type_of% f_field_first_r0.eq_1 := by_rfl f_field_first_r0.eq_1
@[simp] theorem e_field_first_r1 : type_of% f_field_first_r1.eq_1 := by_rfl f_field_first_r1.eq_1
@[simp] theorem e_field_first_r2 : type_of% f_field_first_r2.eq_1 := by_rfl f_field_first_r2.eq_1
@[simp] theorem e_field_first_r3 : type_of% f_field_first_r3.eq_1 := by_rfl f_field_first_r3.eq_1
@[simp] theorem e_field_first_r4 : type_of% f_field_first_r4.eq_1 := by_rfl f_field_first_r4.eq_1
@[simp] theorem e_field_first_r5 : type_of% f_field_first_r5.eq_1 := by_rfl f_field_first_r5.eq_1
@[simp] theorem e_field_first_r6 : type_of% f_field_first_r6.eq_1 := by_rfl f_field_first_r6.eq_1
@[simp] theorem e_field_first_r7 : type_of% f_field_first_r7.eq_1 := by_rfl f_field_first_r7.eq_1
theorem e_field_first_l8 : type_of% f_field_first_l8.eq_1 := by_rfl f_field_first_l8.eq_1
@[simp] theorem e_field_first_r9 : type_of% f_field_first_r9.eq_1 := by_rfl f_field_first_r9.eq_1
theorem e_field_first : type_of% f_field_first.eq_1 := by_rfl f_field_first.eq_1
theorem ok_field_first : fnC Try.prog a_field_first Try.f79 = some f_field_first := by kernel_rfl

/-! 80 fumarole/field.CheckModels$1 -/
def f_field_CheckModels_1_r0 : List Abs.Op := [
  ⟨some 2, none, false, .mv (.c (.int .i64 0))⟩]

def f_field_CheckModels_1_r1 : List Abs.Op := [
  ⟨some 3, none, false, .ld true 4 (.t 0)⟩,
  ⟨some 4, none, false, .ld false 1 (.t 1)⟩,
  ⟨some 5, none, false, .call false (.c (.fn i_field_Field_models [] [])) [(.t 3), (.t 4)]⟩,
  ⟨some 2, none, false, .mv (.t 5)⟩]

def a_field_CheckModels_1 : Ann := ⟨[(1, [2]), (0, [0, 1])], [], [], [], [], [], [], [], [], [], []⟩
def f_field_CheckModels_1 : Abs.Fn := ⟨2, [.t 2],
  (.seq (.reg [0, 1] f_field_CheckModels_1_r0) (.seq (.reg [2] f_field_CheckModels_1_r1) .ret))⟩

@[simp] theorem e_field_CheckModels_1_r0 : type_of% f_field_CheckModels_1_r0.eq_1 := by_rfl f_field_CheckModels_1_r0.eq_1
@[simp] theorem e_field_CheckModels_1_r1 : type_of% f_field_CheckModels_1_r1.eq_1 := by_rfl f_field_CheckModels_1_r1.eq_1
theorem e_field_CheckModels_1 : type_of% f_field_CheckModels_1.eq_1 := by_rfl f_field_CheckModels_1.eq_1
theorem ok_field_CheckModels_1 : fnC Try.prog a_field_CheckModels_1 Try.f80 = some f_field_CheckModels_1 := by kernel_rfl

/-! 81 (fumarole/field.Field).models -/
def f_field_Field_models_r0 : List Abs.Op := [
  ⟨some 2, none, false, .boxi (.t 0)⟩,
  ⟨some 4, none, false, .mv (.c (.int .i64 0))⟩]

def f_field_Field_models_r1 : List Abs.Op := [
  ⟨some 5, none, false, .mv (.t 1)⟩,
  ⟨some 6, none, false, .lenS (.t 5)⟩,
  ⟨some 7, none, false, .call false (.c (.fn i_field_within [] [])) [(.t 6), (.c (.int .i64 1)), (.c (.int .i64 40))]⟩,
  ⟨some 8, none, false, .un .not (.t 7)⟩]

def f_field_Field_models_r2 : List Abs.Op := [
  ⟨some 4, none, false, .mv (.c (.int .i64 3))⟩]

def f_field_Field_models_r3 : List Abs.Op := [
  ⟨some 9, none, false, .mv (.t 1)⟩,
  ⟨some 10, none, false, .mkf i_field_Field_models_1 [] [(.t 2)]⟩,
  ⟨some 11, none, false, .call false (.c (.fn i_field_each_field_Model [] [])) [(.t 9), (.t 10)]⟩,
  ⟨some 4, none, false, .mv (.t 11)⟩]

def a_field_Field_models : Ann := ⟨[(3, [4]), (2, [4]), (1, [1, 2, 8]), (0, [1, 2])], [], [], [], [], [], [], [], [], [], []⟩
def f_field_Field_models : Abs.Fn := ⟨2, [.t 4],
  (.seq (.reg [1, 2] f_field_Field_models_r0) (.seq (.seq (.reg [1, 2, 8] f_field_Field_models_r1) (.ite (.t 8) (.seq (.reg [4] f_field_Field_models_r2) .ret) .nop)) (.seq (.reg [4] f_field_Field_models_r3) .ret)))⟩

@[simp] theorem e_field_Field_models_r0 : type_of% f_field_Field_models_r0.eq_1 := by_rfl f_field_Field_models_r0.eq_1
@[simp] theorem e_field_Field_models_r1 : type_of% f_field_Field_models_r1.eq_1 := by_rfl f_field_Field_models_r1.eq_1
@[simp] theorem e_field_Field_models_r2 : type_of% f_field_Field_models_r2.eq_1 := by_rfl f_field_Field_models_r2.eq_1
@[simp] theorem e_field_Field_models_r3 : type_of% f_field_Field_models_r3.eq_1 := by_rfl f_field_Field_models_r3.eq_1
theorem e_field_Field_models : type_of% f_field_Field_models.eq_1 := by_rfl f_field_Field_models.eq_1
theorem ok_field_Field_models : fnC Try.prog a_field_Field_models Try.f81 = some f_field_Field_models := by kernel_rfl

/-! 82 slices.ContainsFunc[[]int,int] -/
def f_slices_ContainsFunc_int_r0 : List Abs.Op := [
  ⟨some 4, none, false, .mv (.c (.bool false))⟩]

def f_slices_ContainsFunc_int_r1 : List Abs.Op := [
  ⟨some 5, none, false, .mv (.t 0)⟩,
  ⟨some 6, none, false, .mv (.t 1)⟩,
  ⟨some 7, none, false, .call false (.c (.fn i_slices_IndexFunc_int [] [])) [(.t 5), (.t 6)]⟩,
  ⟨some 8, none, false, .bin .geq (.t 7) (.c (.int .i64 0))⟩,
  ⟨some 4, none, false, .mv (.t 8)⟩]

def a_slices_ContainsFunc_int : Ann := ⟨[(1, [4]), (0, [0, 1])], [], [], [], [], [], [], [], [], [], []⟩
def f_slices_ContainsFunc_int : Abs.Fn := ⟨2, [.t 4],
  (.seq (.reg [0, 1] f_slices_ContainsFunc_int_r0) (.seq (.reg [4] f_slices_ContainsFunc_int_r1) .ret))⟩

@[simp] theorem e_slices_ContainsFunc_int_r0 : type_of% f_slices_ContainsFunc_int_r0.eq_1 := by_rfl f_slices_ContainsFunc_int_r0.eq_1
@[simp] theorem e_slices_ContainsFunc_int_r1 : type_of% f_slices_ContainsFunc_int_r1.eq_1 := by_rfl f_slices_ContainsFunc_int_r1.eq_1
theorem e_slices_ContainsFunc_int : type_of% f_slices_ContainsFunc_int.eq_1 := by_rfl f_slices_ContainsFunc_int.eq_1
theorem ok_slices_ContainsFunc_int : fnC Try.prog a_slices_ContainsFunc_int Try.f82 = some f_slices_ContainsFunc_int := by kernel_rfl

/-! 83 fumarole/rock.all[int]$1 -/
def f_rock_all_int_1_r0 : List Abs.Op := [
  ⟨some 3, none, false, .mv (.c (.bool false))⟩]

def f_rock_all_int_1_r1 : List Abs.Op := [
  ⟨some 4, none, false, .ld false 1 (.t 1)⟩,
  ⟨some 5, none, false, .mv (.t 0)⟩,
  ⟨some 6, none, false, .call false (.t 4) [(.t 5)]⟩,
  ⟨some 7, none, false, .un .not (.t 6)⟩,
  ⟨some 3, none, false, .mv (.t 7)⟩]

def a_rock_all_int_1 : Ann := ⟨[(1, [3]), (0, [0, 1])], [], [], [], [], [], [], [], [], [], []⟩
def f_rock_all_int_1 : Abs.Fn := ⟨2, [.t 3],
  (.seq (.reg [0, 1] f_rock_all_int_1_r0) (.seq (.reg [3] f_rock_all_int_1_r1) .ret))⟩

@[simp] theorem e_rock_all_int_1_r0 : type_of% f_rock_all_int_1_r0.eq_1 := by_rfl f_rock_all_int_1_r0.eq_1
@[simp] theorem e_rock_all_int_1_r1 : type_of% f_rock_all_int_1_r1.eq_1 := by_rfl f_rock_all_int_1_r1.eq_1
theorem e_rock_all_int_1 : type_of% f_rock_all_int_1.eq_1 := by_rfl f_rock_all_int_1.eq_1
theorem ok_rock_all_int_1 : fnC Try.prog a_rock_all_int_1 Try.f83 = some f_rock_all_int_1 := by kernel_rfl

/-! 84 (fumarole/rock.Bed).links -/
def f_rock_Bed_links_r0 : List Abs.Op := [
  ⟨some 1, none, false, .boxi (.t 0)⟩,
  ⟨some 2, none, false, .mv (.c .nilf)⟩]

def f_rock_Bed_links_r1 : List Abs.Op := [
  ⟨some 3, none, false, .mkf i_rock_Bed_links_1 [] [(.t 1)]⟩,
  ⟨some 2, none, false, .mv (.t 3)⟩]

def a_rock_Bed_links : Ann := ⟨[(1, [2]), (0, [1])], [], [], [], [], [], [], [], [], [], []⟩
def f_rock_Bed_links : Abs.Fn := ⟨1, [.t 2],
  (.seq (.reg [1] f_rock_Bed_links_r0) (.seq (.reg [2] f_rock_Bed_links_r1) .ret))⟩

@[simp] theorem e_rock_Bed_links_r0 : type_of% f_rock_Bed_links_r0.eq_1 := by_rfl f_rock_Bed_links_r0.eq_1
@[simp] theorem e_rock_Bed_links_r1 : type_of% f_rock_Bed_links_r1.eq_1 := by_rfl f_rock_Bed_links_r1.eq_1
theorem e_rock_Bed_links : type_of% f_rock_Bed_links.eq_1 := by_rfl f_rock_Bed_links.eq_1
theorem ok_rock_Bed_links : fnC Try.prog a_rock_Bed_links Try.f84 = some f_rock_Bed_links := by kernel_rfl

/-! 85 (fumarole/rock.bedded).open -/
def f_rock_bedded_open_r0 : List Abs.Op := [
  ⟨some 2, none, false, .boxi (.t 0)⟩,
  ⟨some 4, none, false, .mv (.c (.int .i64 0))⟩]

def f_rock_bedded_open_r1 : List Abs.Op := [
  ⟨some 5, none, false, .ld true 11 (.t 2)⟩,
  ⟨some 6, none, false, .call false (.c (.fn i_rock_bedded_kind [] [])) [(.t 5), (.c (.int .i64 1))]⟩,
  ⟨some 7, none, false, .mv (.t 1)⟩,
  ⟨some 8, none, false, .idxS 1 (.t 6) (.t 7)⟩,
  ⟨some 9, none, false, .ld false 1 (.t 8)⟩,
  ⟨some 4, none, false, .mv (.t 9)⟩]

def a_rock_bedded_open : Ann := ⟨[(1, [4]), (0, [1, 2])], [], [], [], [], [], [], [], [], [], []⟩
def f_rock_bedded_open : Abs.Fn := ⟨2, [.t 4],
  (.seq (.reg [1, 2] f_rock_bedded_open_r0) (.seq (.reg [4] f_rock_bedded_open_r1) .ret))⟩

@[simp] theorem e_rock_bedded_open_r0 : type_of% f_rock_bedded_open_r0.eq_1 := by_rfl f_rock_bedded_open_r0.eq_1
@[simp] theorem e_rock_bedded_open_r1 : type_of% f_rock_bedded_open_r1.eq_1 := by_rfl f_rock_bedded_open_r1.eq_1
theorem e_rock_bedded_open : type_of% f_rock_bedded_open.eq_1 := by_rfl f_rock_bedded_open.eq_1
theorem ok_rock_bedded_open : fnC Try.prog a_rock_bedded_open Try.f85 = some f_rock_bedded_open := by kernel_rfl

/-! 86 (fumarole/rock.bedded).feed -/
def f_rock_bedded_feed_r0 : List Abs.Op := [
  ⟨some 2, none, false, .boxi (.t 0)⟩,
  ⟨some 4, none, false, .mv (.c (.int .i64 0))⟩]

def f_rock_bedded_feed_r1 : List Abs.Op := [
  ⟨some 5, none, false, .ld true 11 (.t 2)⟩,
  ⟨some 6, none, false, .call false (.c (.fn i_rock_bedded_kind [] [])) [(.t 5), (.c (.int .i64 3))]⟩,
  ⟨some 7, none, false, .mv (.t 1)⟩,
  ⟨some 8, none, false, .idxS 1 (.t 6) (.t 7)⟩,
  ⟨some 9, none, false, .ld false 1 (.t 8)⟩,
  ⟨some 4, none, false, .mv (.t 9)⟩]

def a_rock_bedded_feed : Ann := ⟨[(1, [4]), (0, [1, 2])], [], [], [], [], [], [], [], [], [], []⟩
def f_rock_bedded_feed : Abs.Fn := ⟨2, [.t 4],
  (.seq (.reg [1, 2] f_rock_bedded_feed_r0) (.seq (.reg [4] f_rock_bedded_feed_r1) .ret))⟩

@[simp] theorem e_rock_bedded_feed_r0 : type_of% f_rock_bedded_feed_r0.eq_1 := by_rfl f_rock_bedded_feed_r0.eq_1
@[simp] theorem e_rock_bedded_feed_r1 : type_of% f_rock_bedded_feed_r1.eq_1 := by_rfl f_rock_bedded_feed_r1.eq_1
theorem e_rock_bedded_feed : type_of% f_rock_bedded_feed.eq_1 := by_rfl f_rock_bedded_feed.eq_1
theorem ok_rock_bedded_feed : fnC Try.prog a_rock_bedded_feed Try.f86 = some f_rock_bedded_feed := by kernel_rfl

/-! 87 slices.IndexFunc[[]fumarole/rock.Block,fumarole/rock.Block] -/
def f_slices_IndexFunc_rock_Block_r0 : List Abs.Op := [
  ⟨some 4, none, false, .mv (.c (.int .i64 0))⟩]

def f_slices_IndexFunc_rock_Block_r1 : List Abs.Op := [
  ⟨some 6, none, false, .mv (.t 0)⟩,
  ⟨some 7, none, false, .lenS (.t 6)⟩,
  ⟨some 8, none, false, .mv (.c (.int .i64 0))⟩]

def f_slices_IndexFunc_rock_Block_r2 : List Abs.Op := [
  ⟨some 9, none, false, .bin .lss (.t 8) (.t 7)⟩]

def f_slices_IndexFunc_rock_Block_r3 : List Abs.Op := [
  ⟨some 10, none, false, .mv (.t 8)⟩,
  ⟨some 5, none, false, .mv (.t 10)⟩]

def f_slices_IndexFunc_rock_Block_r4 : List Abs.Op := [
  ⟨some 11, none, false, .mv (.t 1)⟩,
  ⟨some 12, none, false, .mv (.t 0)⟩,
  ⟨some 13, none, false, .mv (.t 5)⟩,
  ⟨some 14, none, false, .idxS 3 (.t 12) (.t 13)⟩,
  ⟨some 15, none, false, .ld true 3 (.t 14)⟩,
  ⟨some 16, none, false, .call false (.t 11) [(.t 15)]⟩]

def f_slices_IndexFunc_rock_Block_r5 : List Abs.Op := [
  ⟨some 17, none, false, .mv (.t 5)⟩,
  ⟨some 4, none, false, .mv (.t 17)⟩]

def f_slices_IndexFunc_rock_Block_r6 : List Abs.Op := [
  ⟨some 18, none, false, .bin .add (.t 8) (.c (.int .i64 1))⟩,
  ⟨some 8, none, false, .mv (.t 18)⟩]

def f_slices_IndexFunc_rock_Block_l7 : Abs.Cmd :=
  (.seq (.reg [0, 1, 7, 8, 9] f_slices_IndexFunc_rock_Block_r2) (.seq (.ite (.t 9) .nop (.exit 0)) (.seq (.blk 1 (.seq (.reg [0, 1, 5, 7, 8] f_slices_IndexFunc_rock_Block_r3) (.seq (.reg [0, 1, 5, 7, 8, 16] f_slices_IndexFunc_rock_Block_r4) (.ite (.t 16) (.seq (.reg [4] f_slices_IndexFunc_rock_Block_r5) .ret) .nop)))) (.reg [0, 1, 7, 8] f_slices_IndexFunc_rock_Block_r6))))

def f_slices_IndexFunc_rock_Block_r8 : List Abs.Op := [
  ⟨some 4, none, false, .mv (.c (.int .i64 (-1)))⟩]

def a_slices_IndexFunc_rock_Block : Ann := ⟨[(7, [4]), (6, [0, 1, 7, 8]), (5, [4]), (4, [0, 1, 5, 7, 8, 16]), (3, [0, 1, 5, 7, 8]), (2, [0, 1, 7, 8, 9]), (1, [0, 1, 7, 8]), (0, [0, 1])], [(0, [0, 1, 7, 8])], [], [], [], [], [], [], [], [], []⟩
def f_slices_IndexFunc_rock_Block : Abs.Fn := ⟨2, [.t 4],
  (.seq (.reg [0, 1] f_slices_IndexFunc_rock_Block_r0) (.seq (.seq (.reg [0, 1, 7, 8] f_slices_IndexFunc_rock_Block_r1) (.blk 0 (.loop [0, 1, 7, 8] false f_slices_IndexFunc_rock_Block_l7))) (.seq (.reg [4] f_slices_IndexFunc_rock_Block_r8) .ret)))⟩

@[simp] theorem e_slices_IndexFunc_rock_Block_r0 : type_of% f_slices_IndexFunc_rock_Block_r0.eq_1 := by_rfl f_slices_IndexFunc_rock_Block_r0.eq_1
@[simp] theorem e_slices_IndexFunc_rock_Block_r1 : type_of% f_slices_IndexFunc_rock_Block_r1.eq_1 := by_rfl f_slices_IndexFunc_rock_Block_r1.eq_1
@[simp] theorem e_slices_IndexFunc_rock_Block_r2 : type_of% f_slices_IndexFunc_rock_Block_r2.eq_1 := by_rfl f_slices_IndexFunc_rock_Block_r2.eq_1
@[simp] theorem e_slices_IndexFunc_rock_Block_r3 : type_of% f_slices_IndexFunc_rock_Block_r3.eq_1 := by_rfl f_slices_IndexFunc_rock_Block_r3.eq_1
@[simp] theorem e_slices_IndexFunc_rock_Block_r4 : type_of% f_slices_IndexFunc_rock_Block_r4.eq_1 := by_rfl f_slices_IndexFunc_rock_Block_r4.eq_1
@[simp] theorem e_slices_IndexFunc_rock_Block_r5 : type_of% f_slices_IndexFunc_rock_Block_r5.eq_1 := by_rfl f_slices_IndexFunc_rock_Block_r5.eq_1
@[simp] theorem e_slices_IndexFunc_rock_Block_r6 : type_of% f_slices_IndexFunc_rock_Block_r6.eq_1 := by_rfl f_slices_IndexFunc_rock_Block_r6.eq_1
theorem e_slices_IndexFunc_rock_Block_l7 : type_of% f_slices_IndexFunc_rock_Block_l7.eq_1 := by_rfl f_slices_IndexFunc_rock_Block_l7.eq_1
@[simp] theorem e_slices_IndexFunc_rock_Block_r8 : type_of% f_slices_IndexFunc_rock_Block_r8.eq_1 := by_rfl f_slices_IndexFunc_rock_Block_r8.eq_1
theorem e_slices_IndexFunc_rock_Block : type_of% f_slices_IndexFunc_rock_Block.eq_1 := by_rfl f_slices_IndexFunc_rock_Block.eq_1
theorem ok_slices_IndexFunc_rock_Block : fnC Try.prog a_slices_IndexFunc_rock_Block Try.f87 = some f_slices_IndexFunc_rock_Block := by kernel_rfl

end Go.Proofs.Ytehandllpmlcoaa
