/- The code of functions of the program, in the small instruction set; each is what the translation makes of it. -/
import Derived.Test.YtehandllpmlcoaaIds
set_option linter.unusedVariables false
set_option maxRecDepth 100000
namespace Go.Proofs.Ytehandllpmlcoaa
open Go Go.Abs
/-! 33 (fumarole/rock.bedded).first -/
def f33r0 : List Abs.Op := [
  ⟨some 1, none, false, .boxi (.t 0)⟩,
  ⟨some 2, none, false, .nilb 3⟩]

def f33r1 : List Abs.Op := [
  ⟨some 4, none, false, .fadr 0 (.t 1)⟩,
  ⟨some 5, none, false, .ld true 9 (.t 4)⟩,
  ⟨some 6, none, false, .call false (.c (.fn i_rock_Bed_size [] [])) [(.t 5)]⟩,
  ⟨some 7, none, false, .mv (.c (.int .i64 0))⟩]

def f33r2 : List Abs.Op := [
  ⟨some 8, none, false, .bin .lss (.t 7) (.t 6)⟩]

def f33r3 : List Abs.Op := [
  ⟨some 9, none, false, .mv (.t 7)⟩,
  ⟨some 3, none, false, .mv (.t 9)⟩]

def f33r4 : List Abs.Op := [
  ⟨some 10, none, true, .mv (.t 2)⟩,
  ⟨some 11, none, true, .ld true 11 (.t 1)⟩,
  ⟨some 12, none, true, .mv (.t 3)⟩,
  ⟨some 13, none, true, .call false (.c (.fn i_rock_bedded_hold [] [])) [(.t 11), (.t 12)]⟩,
  ⟨some 14, none, true, .ld true 11 (.t 1)⟩,
  ⟨some 15, none, true, .mv (.t 3)⟩,
  ⟨some 16, none, true, .call false (.c (.fn i_rock_bedded_hold [] [])) [(.t 14), (.t 15)]⟩,
  ⟨some 17, none, true, .ld true 11 (.t 1)⟩,
  ⟨some 18, none, true, .mv (.t 3)⟩,
  ⟨some 19, none, true, .call false (.c (.fn i_rock_bedded_warm [] [])) [(.t 17), (.t 18)]⟩,
  ⟨some 20, none, true, .bin .mul (.t 16) (.t 19)⟩,
  ⟨some 21, none, true, .bld [(.int .i64 0), (.int .i64 0), (.int .i64 0)] [(0, 1, (.t 13)), (1, 1, (.t 20))]⟩,
  ⟨some 22, none, true, .bsi 1 3 [(.int .i64 0), (.int .i64 0), (.int .i64 0)] [(0, 3, (.t 21))]⟩,
  ⟨some 23, none, false, .app 3 24 (.t 10) (.t 22)⟩,
  ⟨some 2, none, false, .mv (.t 23)⟩]

def f33r5 : List Abs.Op := [
  ⟨some 24, none, false, .bin .add (.t 7) (.c (.int .i64 1))⟩,
  ⟨some 7, none, false, .mv (.t 24)⟩]

def f_rock_bedded_first_l6 : Abs.Cmd :=
  (.seq (.reg [1, 2, 6, 7, 8] f33r2) (.seq (.ite (.t 8) .nop (.exit 0)) (.seq (.blk 1 (.seq (.reg [1, 2, 3, 6, 7] f33r3) (.reg [1, 2, 6, 7] f33r4))) (.reg [1, 2, 6, 7] f33r5))))

def f33r7 : List Abs.Op := [
  ⟨some 25, none, false, .mv (.t 2)⟩,
  ⟨some 2, none, false, .mv (.t 25)⟩]

def a_rock_bedded_first : Ann := ⟨[(6, [2]), (5, [1, 2, 6, 7]), (4, [1, 2, 6, 7]), (3, [1, 2, 3, 6, 7]), (2, [1, 2, 6, 7, 8]), (1, [1, 2, 6, 7]), (0, [1, 2])], [(0, [1, 2, 6, 7])], [], [2], [], [], [], [], [], [], []⟩
def f_rock_bedded_first : Abs.Fn := ⟨1, [.t 2],
  (.seq (.reg [1, 2] f33r0) (.seq (.seq (.reg [1, 2, 6, 7] f33r1) (.blk 0 (.loop [1, 2, 6, 7] false f_rock_bedded_first_l6))) (.seq (.reg [2] f33r7) .ret)))⟩

@[simp] theorem e33r0 : type_of% f33r0.eq_1 := by_rfl f33r0.eq_1
@[simp] theorem e33r1 : type_of% f33r1.eq_1 := by_rfl f33r1.eq_1
@[simp] theorem e33r2 : type_of% f33r2.eq_1 := by_rfl f33r2.eq_1
@[simp] theorem e33r3 : type_of% f33r3.eq_1 := by_rfl f33r3.eq_1
@[simp] theorem e33r4 : type_of% f33r4.eq_1 := by_rfl f33r4.eq_1
@[simp] theorem e33r5 : type_of% f33r5.eq_1 := by_rfl f33r5.eq_1
@[simp] theorem e33r7 : type_of% f33r7.eq_1 := by_rfl f33r7.eq_1
theorem e_rock_bedded_first_l6 : type_of% f_rock_bedded_first_l6.eq_1 := by_rfl f_rock_bedded_first_l6.eq_1
theorem e_rock_bedded_first : type_of% f_rock_bedded_first.eq_1 := by_rfl f_rock_bedded_first.eq_1
theorem ok_rock_bedded_first : fnC Try.prog a_rock_bedded_first Try.f33 = some f_rock_bedded_first := by kernel_rfl

/-! 34 (fumarole/rock.bedded).tick -/
def f34r0 : List Abs.Op := [
  ⟨some 3, none, false, .boxi (.t 0)⟩,
  ⟨some 6, none, false, .mv (.c .nils)⟩,
  ⟨some 7, none, false, .mv (.c .nils)⟩,
  ⟨some 8, none, false, .mv (.c (.int .i64 0))⟩]

def f34r1 : List Abs.Op := [
  ⟨some 18, none, false, .mv (.t 1)⟩,
  ⟨some 19, none, false, .call true (.c (.fn i_slices_Clone_rock_State_rock_Block [] [])) [(.t 18)]⟩,
  ⟨some 9, none, false, .mv (.t 19)⟩]

def f34r2 : List Abs.Op := [
  ⟨some 20, none, false, .ld true 11 (.t 3)⟩,
  ⟨some 21, none, false, .mv (.t 1)⟩,
  ⟨some 22, none, false, .call true (.c (.fn i_rock_bedded_flows [] [])) [(.t 20), (.t 21)]⟩,
  ⟨some 23, none, false, .mp (.rng) [(.t 22)]⟩]

def f34r3 : List Abs.Op := [
  ⟨some 26, none, false, .mp (.ent) [(.t 23)]⟩,
  ⟨some 27, none, false, .ext (.t 26) 0⟩,
  ⟨some 28, none, false, .ext (.t 26) 1⟩,
  ⟨some 10, none, false, .alcv [] [(.int .i64 0), (.int .i64 0)]⟩,
  ⟨some 11, none, false, .alcv [] [(.int .i64 0), (.int .i64 0), (.int .i64 0)]⟩,
  ⟨none, none, false, .stv 10 [] 2 10 (.t 27)⟩,
  ⟨none, none, false, .stv 11 [] 3 11 (.t 28)⟩]

def f34r4 : List Abs.Op := [
  ⟨some 29, none, true, .mv (.t 9)⟩,
  ⟨some 30, none, true, .fadr 0 (.t 10)⟩,
  ⟨some 31, none, true, .ldv 10 false 1 30⟩,
  ⟨some 32, none, true, .idxS 3 (.t 29) (.t 31)⟩,
  ⟨some 33, none, true, .ldv 11 true 3 11⟩,
  ⟨some 34, none, false, .call false (.c (.fn i_rock_Block_move [] [])) [(.t 32), (.t 33), (.c (.int .i64 (-1)))]⟩]

def f34r5 : List Abs.Op := [
  ⟨some 35, none, true, .mv (.t 9)⟩,
  ⟨some 36, none, true, .fadr 1 (.t 10)⟩,
  ⟨some 37, none, true, .ldv 10 false 1 36⟩,
  ⟨some 38, none, true, .idxS 3 (.t 35) (.t 37)⟩,
  ⟨some 39, none, true, .ldv 11 true 3 11⟩,
  ⟨some 40, none, false, .call false (.c (.fn i_rock_Block_move [] [])) [(.t 38), (.t 39), (.c (.int .i64 1))]⟩]

def f_rock_bedded_tick_l6 : Abs.Cmd :=
  (.seq (.ite (.t 25) .nop (.exit 0)) (.blk 1 (.seq (.reg [1, 2, 3, 9, 10, 11, 23] f34r3) (.seq (.reg [1, 2, 3, 9, 10, 11, 23] f34r4) (.reg [1, 2, 3, 9, 23] f34r5)))))

def f34r7 : List Abs.Op := [
  ⟨some 12, none, false, .nilb 3⟩]

def f34r8 : List Abs.Op := [
  ⟨some 41, none, false, .mv (.t 2)⟩,
  ⟨some 42, none, false, .lenS (.t 41)⟩,
  ⟨some 43, none, false, .mv (.c (.int .i64 0))⟩]

def f34r9 : List Abs.Op := [
  ⟨some 44, none, false, .bin .lss (.t 43) (.t 42)⟩]

def f34r10 : List Abs.Op := [
  ⟨some 45, none, false, .mv (.t 43)⟩,
  ⟨some 46, none, false, .idxS 1 (.t 41) (.t 43)⟩,
  ⟨some 47, none, false, .ld false 1 (.t 46)⟩,
  ⟨some 13, none, false, .mv (.t 45)⟩,
  ⟨some 14, none, false, .mv (.t 47)⟩]

def f34r11 : List Abs.Op := [
  ⟨some 48, none, false, .fadr 0 (.t 3)⟩,
  ⟨some 49, none, false, .fadr 8 (.t 48)⟩,
  ⟨some 50, none, false, .ld false 1 (.t 49)⟩,
  ⟨some 51, none, false, .mv (.t 13)⟩,
  ⟨some 52, none, false, .idxS 3 (.t 50) (.t 51)⟩,
  ⟨some 53, none, false, .fadr 0 (.t 52)⟩,
  ⟨some 54, none, false, .ld false 1 (.t 53)⟩,
  ⟨some 15, none, false, .mv (.t 54)⟩]

def f34r12 : List Abs.Op := [
  ⟨some 16, none, false, .alcv [] [(.int .i64 0), (.int .i64 0), (.int .i64 0)]⟩]

def f34r13 : List Abs.Op := [
  ⟨some 55, none, false, .mv (.t 14)⟩,
  ⟨some 56, none, false, .bin .lss (.t 55) (.c (.int .i64 0))⟩]

def f34r14 : List Abs.Op := [
  ⟨some 57, none, true, .mv (.t 9)⟩,
  ⟨some 58, none, true, .mv (.t 15)⟩,
  ⟨some 59, none, true, .idxS 3 (.t 57) (.t 58)⟩,
  ⟨some 60, none, true, .fadr 0 (.t 3)⟩,
  ⟨some 61, none, true, .fadr 8 (.t 60)⟩,
  ⟨some 62, none, true, .ld false 1 (.t 61)⟩,
  ⟨some 63, none, true, .mv (.t 13)⟩,
  ⟨some 64, none, true, .idxS 3 (.t 62) (.t 63)⟩,
  ⟨some 65, none, true, .ld true 3 (.t 64)⟩,
  ⟨some 66, none, true, .mv (.t 14)⟩,
  ⟨some 67, none, true, .call false (.c (.fn i_rock_Bore_given [] [])) [(.t 65), (.t 66)]⟩,
  ⟨some 68, none, false, .call false (.c (.fn i_rock_Block_move [] [])) [(.t 59), (.t 67), (.c (.int .i64 1))]⟩]

def f34r15 : List Abs.Op := [
  ⟨some 69, none, true, .mv (.t 1)⟩,
  ⟨some 70, none, true, .mv (.t 15)⟩,
  ⟨some 71, none, true, .idxS 3 (.t 69) (.t 70)⟩,
  ⟨some 72, none, true, .ld true 3 (.t 71)⟩,
  ⟨some 73, none, true, .mv (.t 14)⟩,
  ⟨some 74, none, true, .mv (.t 1)⟩,
  ⟨some 75, none, true, .mv (.t 15)⟩,
  ⟨some 76, none, true, .idxS 3 (.t 74) (.t 75)⟩,
  ⟨some 77, none, true, .fadr 0 (.t 76)⟩,
  ⟨some 78, none, true, .ld false 1 (.t 77)⟩,
  ⟨some 79, none, true, .bin .quo (.t 78) (.c (.int .i64 8))⟩,
  ⟨some 80, none, true, .mn (.t 73) (.t 79)⟩,
  ⟨some 81, none, false, .call false (.c (.fn i_rock_Block_out [] [])) [(.t 72), (.t 80)]⟩,
  ⟨none, none, false, .stv 16 [] 3 16 (.t 81)⟩]

def f34r16 : List Abs.Op := [
  ⟨some 82, none, true, .mv (.t 9)⟩,
  ⟨some 83, none, true, .mv (.t 15)⟩,
  ⟨some 84, none, true, .idxS 3 (.t 82) (.t 83)⟩,
  ⟨some 85, none, true, .ldv 16 true 3 16⟩,
  ⟨some 86, none, false, .call false (.c (.fn i_rock_Block_move [] [])) [(.t 84), (.t 85), (.c (.int .i64 (-1)))]⟩]

def f34r17 : List Abs.Op := [
  ⟨some 87, none, false, .mv (.t 12)⟩,
  ⟨some 88, none, false, .ldv 16 true 3 16⟩,
  ⟨some 89, none, false, .bsi 1 3 [(.int .i64 0), (.int .i64 0), (.int .i64 0)] [(0, 3, (.t 88))]⟩,
  ⟨some 90, none, false, .app 3 24 (.t 87) (.t 89)⟩,
  ⟨some 12, none, false, .mv (.t 90)⟩]

def f34r18 : List Abs.Op := [
  ⟨some 91, none, false, .bin .add (.t 43) (.c (.int .i64 1))⟩,
  ⟨some 43, none, false, .mv (.t 91)⟩]

def f_rock_bedded_tick_l19 : Abs.Cmd :=
  (.seq (.reg [1, 3, 9, 12, 41, 42, 43, 44] f34r9) (.seq (.ite (.t 44) .nop (.exit 2)) (.seq (.blk 3 (.seq (.reg [1, 3, 9, 12, 13, 14, 41, 42, 43] f34r10) (.seq (.reg [1, 3, 9, 12, 13, 14, 15, 41, 42, 43] f34r11) (.seq (.reg [1, 3, 9, 12, 13, 14, 15, 16, 41, 42, 43] f34r12) (.seq (.seq (.reg [1, 3, 9, 12, 13, 14, 15, 16, 41, 42, 43, 56] f34r13) (.ite (.t 56) (.reg [1, 3, 9, 12, 16, 41, 42, 43] f34r14) (.seq (.reg [1, 3, 9, 12, 15, 16, 41, 42, 43] f34r15) (.reg [1, 3, 9, 12, 16, 41, 42, 43] f34r16)))) (.reg [1, 3, 9, 12, 41, 42, 43] f34r17)))))) (.reg [1, 3, 9, 12, 41, 42, 43] f34r18))))

def f34r20 : List Abs.Op := [
  ⟨some 92, none, false, .mv (.t 9)⟩,
  ⟨some 93, none, false, .lenS (.t 92)⟩,
  ⟨some 94, none, false, .mv (.c (.int .i64 0))⟩]

def f34r21 : List Abs.Op := [
  ⟨some 95, none, false, .bin .lss (.t 94) (.t 93)⟩]

def f34r22 : List Abs.Op := [
  ⟨some 96, none, false, .mv (.t 94)⟩,
  ⟨some 17, none, false, .mv (.t 96)⟩]

def f34r23 : List Abs.Op := [
  ⟨some 97, none, true, .mv (.t 9)⟩,
  ⟨some 98, none, true, .mv (.t 17)⟩,
  ⟨some 99, none, true, .idxS 3 (.t 97) (.t 98)⟩,
  ⟨some 100, none, true, .ld true 11 (.t 3)⟩,
  ⟨some 101, none, true, .mv (.t 17)⟩,
  ⟨some 102, none, true, .call false (.c (.fn i_rock_bedded_fed [] [])) [(.t 100), (.t 101)]⟩,
  ⟨some 103, none, false, .call false (.c (.fn i_rock_Block_move [] [])) [(.t 99), (.t 102), (.c (.int .i64 1))]⟩]

def f34r24 : List Abs.Op := [
  ⟨some 104, none, false, .bin .add (.t 94) (.c (.int .i64 1))⟩,
  ⟨some 94, none, false, .mv (.t 104)⟩]

def f_rock_bedded_tick_l25 : Abs.Cmd :=
  (.seq (.reg [3, 9, 12, 93, 94, 95] f34r21) (.seq (.ite (.t 95) .nop (.exit 4)) (.seq (.blk 5 (.seq (.reg [3, 9, 12, 17, 93, 94] f34r22) (.reg [3, 9, 12, 93, 94] f34r23))) (.reg [3, 9, 12, 93, 94] f34r24))))

def f34r26 : List Abs.Op := [
  ⟨some 105, none, false, .ld true 11 (.t 3)⟩,
  ⟨some 106, none, false, .mv (.t 9)⟩,
  ⟨some 107, none, false, .call false (.c (.fn i_rock_bedded_state [] [])) [(.t 105), (.t 106)]⟩,
  ⟨some 108, none, false, .un .not (.t 107)⟩]

def f34r27 : List Abs.Op := [
  ⟨some 6, none, false, .mv (.c .nils)⟩,
  ⟨some 7, none, false, .mv (.c .nils)⟩,
  ⟨some 8, none, false, .mv (.c (.int .i64 9))⟩]

def f34r28 : List Abs.Op := [
  ⟨some 109, none, false, .mv (.t 9)⟩,
  ⟨some 110, none, false, .mv (.t 12)⟩,
  ⟨some 6, none, false, .mv (.t 109)⟩,
  ⟨some 7, none, false, .mv (.t 110)⟩,
  ⟨some 8, none, false, .mv (.c (.int .i64 0))⟩]

def f_rock_bedded_tick_l29 : Abs.Cmd :=
  (.seq (.reg [1, 2, 3, 9, 12] f34r7) (.seq (.seq (.reg [1, 3, 9, 12, 41, 42, 43] f34r8) (.blk 2 (.loop [1, 3, 9, 12, 41, 42, 43] false f_rock_bedded_tick_l19))) (.seq (.seq (.reg [3, 9, 12, 93, 94] f34r20) (.blk 4 (.loop [3, 9, 12, 93, 94] false f_rock_bedded_tick_l25))) (.seq (.seq (.reg [9, 12, 108] f34r26) (.ite (.t 108) (.seq (.reg [6, 7, 8] f34r27) .ret) .nop)) (.seq (.reg [6, 7, 8] f34r28) .ret)))))

def a_rock_bedded_tick : Ann := ⟨[(26, [6, 7, 8]), (25, [6, 7, 8]), (24, [9, 12, 108]), (23, [3, 9, 12, 93, 94]), (22, [3, 9, 12, 93, 94]), (21, [3, 9, 12, 17, 93, 94]), (20, [3, 9, 12, 93, 94, 95]), (19, [3, 9, 12, 93, 94]), (18, [1, 3, 9, 12, 41, 42, 43]), (17, [1, 3, 9, 12, 41, 42, 43]), (14, [1, 3, 9, 12, 16, 41, 42, 43]), (16, [1, 3, 9, 12, 16, 41, 42, 43]), (15, [1, 3, 9, 12, 15, 16, 41, 42, 43]), (13, [1, 3, 9, 12, 13, 14, 15, 16, 41, 42, 43, 56]), (12, [1, 3, 9, 12, 13, 14, 15, 16, 41, 42, 43]), (11, [1, 3, 9, 12, 13, 14, 15, 41, 42, 43]), (10, [1, 3, 9, 12, 13, 14, 41, 42, 43]), (9, [1, 3, 9, 12, 41, 42, 43, 44]), (8, [1, 3, 9, 12, 41, 42, 43]), (7, [1, 2, 3, 9, 12]), (6, [1, 2, 3, 9, 23]), (5, [1, 2, 3, 9, 10, 11, 23]), (4, [1, 2, 3, 9, 10, 11, 23]), (3, [1, 2, 3, 9, 23, 25]), (2, [1, 2, 3, 9, 23]), (1, [1, 2, 3, 9]), (0, [1, 2, 3])], [(4, [3, 9, 12, 93, 94]), (2, [1, 3, 9, 12, 41, 42, 43]), (0, [1, 2, 3, 9, 23])], [], [10, 11, 12, 16], [10, 11, 16], [], [2002, 1001], [], [], [], []⟩
def f_rock_bedded_tick : Abs.Fn := ⟨3, [.t 6, .t 7, .t 8],
  (.seq (.reg [1, 2, 3] f34r0) (.seq (.reg [1, 2, 3, 9] f34r1) (.seq (.reg [1, 2, 3, 9, 23] f34r2) (.mloop [1, 2, 3, 9, 23] (.t 23) 24 25 0 f_rock_bedded_tick_l6 f_rock_bedded_tick_l29))))⟩

@[simp] theorem e34r0 : type_of% f34r0.eq_1 := by_rfl f34r0.eq_1
@[simp] theorem e34r1 : type_of% f34r1.eq_1 := by_rfl f34r1.eq_1
@[simp] theorem e34r2 : type_of% f34r2.eq_1 := by_rfl f34r2.eq_1
@[simp] theorem e34r3 : type_of% f34r3.eq_1 := by_rfl f34r3.eq_1
@[simp] theorem e34r4 : type_of% f34r4.eq_1 := by_rfl f34r4.eq_1
@[simp] theorem e34r5 : type_of% f34r5.eq_1 := by_rfl f34r5.eq_1
@[simp] theorem e34r7 : type_of% f34r7.eq_1 := by_rfl f34r7.eq_1
@[simp] theorem e34r8 : type_of% f34r8.eq_1 := by_rfl f34r8.eq_1
@[simp] theorem e34r9 : type_of% f34r9.eq_1 := by_rfl f34r9.eq_1
@[simp] theorem e34r10 : type_of% f34r10.eq_1 := by_rfl f34r10.eq_1
@[simp] theorem e34r11 : type_of% f34r11.eq_1 := by_rfl f34r11.eq_1
@[simp] theorem e34r12 : type_of% f34r12.eq_1 := by_rfl f34r12.eq_1
@[simp] theorem e34r13 : type_of% f34r13.eq_1 := by_rfl f34r13.eq_1
@[simp] theorem e34r14 : type_of% f34r14.eq_1 := by_rfl f34r14.eq_1
@[simp] theorem e34r15 : type_of% f34r15.eq_1 := by_rfl f34r15.eq_1
@[simp] theorem e34r16 : type_of% f34r16.eq_1 := by_rfl f34r16.eq_1
@[simp] theorem e34r17 : type_of% f34r17.eq_1 := by_rfl f34r17.eq_1
@[simp] theorem e34r18 : type_of% f34r18.eq_1 := by_rfl f34r18.eq_1
@[simp] theorem e34r20 : type_of% f34r20.eq_1 := by_rfl f34r20.eq_1
@[simp] theorem e34r21 : type_of% f34r21.eq_1 := by_rfl f34r21.eq_1
@[simp] theorem e34r22 : type_of% f34r22.eq_1 := by_rfl f34r22.eq_1
@[simp] theorem e34r23 : type_of% f34r23.eq_1 := by_rfl f34r23.eq_1
@[simp] theorem e34r24 : type_of% f34r24.eq_1 := by_rfl f34r24.eq_1
@[simp] theorem e34r26 : type_of% f34r26.eq_1 := by_rfl f34r26.eq_1
@[simp] theorem e34r27 : type_of% f34r27.eq_1 := by_rfl f34r27.eq_1
@[simp] theorem e34r28 : type_of% f34r28.eq_1 := by_rfl f34r28.eq_1
theorem e_rock_bedded_tick_l6 : type_of% f_rock_bedded_tick_l6.eq_1 := by_rfl f_rock_bedded_tick_l6.eq_1
theorem e_rock_bedded_tick_l19 : type_of% f_rock_bedded_tick_l19.eq_1 := by_rfl f_rock_bedded_tick_l19.eq_1
theorem e_rock_bedded_tick_l25 : type_of% f_rock_bedded_tick_l25.eq_1 := by_rfl f_rock_bedded_tick_l25.eq_1
theorem e_rock_bedded_tick_l29 : type_of% f_rock_bedded_tick_l29.eq_1 := by_rfl f_rock_bedded_tick_l29.eq_1
theorem e_rock_bedded_tick : type_of% f_rock_bedded_tick.eq_1 := by_rfl f_rock_bedded_tick.eq_1
theorem ok_rock_bedded_tick : fnC Try.prog a_rock_bedded_tick Try.f34 = some f_rock_bedded_tick := by kernel_rfl

/-! 35 (fumarole/rock.Bed).size -/
def f35r0 : List Abs.Op := [
  ⟨some 1, none, false, .boxi (.t 0)⟩,
  ⟨some 2, none, false, .mv (.c (.int .i64 0))⟩]

def f35r1 : List Abs.Op := [
  ⟨some 3, none, false, .fadr 0 (.t 1)⟩,
  ⟨some 4, none, false, .fadr 0 (.t 3)⟩,
  ⟨some 5, none, false, .ld false 1 (.t 4)⟩,
  ⟨some 6, none, false, .fadr 0 (.t 1)⟩,
  ⟨some 7, none, false, .fadr 1 (.t 6)⟩,
  ⟨some 8, none, false, .ld false 1 (.t 7)⟩,
  ⟨some 9, none, false, .bin .mul (.t 5) (.t 8)⟩,
  ⟨some 10, none, false, .fadr 0 (.t 1)⟩,
  ⟨some 11, none, false, .fadr 2 (.t 10)⟩,
  ⟨some 12, none, false, .ld false 1 (.t 11)⟩,
  ⟨some 13, none, false, .bin .mul (.t 9) (.t 12)⟩,
  ⟨some 2, none, false, .mv (.t 13)⟩]

def a_rock_Bed_size : Ann := ⟨[(1, [2]), (0, [1])], [], [], [], [], [], [], [], [], [], []⟩
def f_rock_Bed_size : Abs.Fn := ⟨1, [.t 2],
  (.seq (.reg [1] f35r0) (.seq (.reg [2] f35r1) .ret))⟩

@[simp] theorem e35r0 : type_of% f35r0.eq_1 := by_rfl f35r0.eq_1
@[simp] theorem e35r1 : type_of% f35r1.eq_1 := by_rfl f35r1.eq_1
theorem e_rock_Bed_size : type_of% f_rock_Bed_size.eq_1 := by_rfl f_rock_Bed_size.eq_1
theorem ok_rock_Bed_size : fnC Try.prog a_rock_Bed_size Try.f35 = some f_rock_Bed_size := by kernel_rfl

/-! 36 fumarole/rock.all[fumarole/rock.Block] -/
def f36r0 : List Abs.Op := [
  ⟨some 3, none, false, .boxi (.t 1)⟩,
  ⟨some 4, none, false, .mv (.c (.bool false))⟩]

def f36r1 : List Abs.Op := [
  ⟨some 5, none, false, .mv (.t 0)⟩,
  ⟨some 6, none, false, .mkf i_rock_all_rock_Block_1 [] [(.t 3)]⟩,
  ⟨some 7, none, false, .call false (.c (.fn i_slices_ContainsFunc_rock_Block [] [])) [(.t 5), (.t 6)]⟩,
  ⟨some 8, none, false, .un .not (.t 7)⟩,
  ⟨some 4, none, false, .mv (.t 8)⟩]

def a_rock_all_rock_Block : Ann := ⟨[(1, [4]), (0, [0, 3])], [], [], [], [], [], [], [], [], [], []⟩
def f_rock_all_rock_Block : Abs.Fn := ⟨2, [.t 4],
  (.seq (.reg [0, 3] f36r0) (.seq (.reg [4] f36r1) .ret))⟩

@[simp] theorem e36r0 : type_of% f36r0.eq_1 := by_rfl f36r0.eq_1
@[simp] theorem e36r1 : type_of% f36r1.eq_1 := by_rfl f36r1.eq_1
theorem e_rock_all_rock_Block : type_of% f_rock_all_rock_Block.eq_1 := by_rfl f_rock_all_rock_Block.eq_1
theorem ok_rock_all_rock_Block : fnC Try.prog a_rock_all_rock_Block Try.f36 = some f_rock_all_rock_Block := by kernel_rfl

/-! 37 (fumarole/rock.Block).valid -/
def f37r0 : List Abs.Op := [
  ⟨some 1, none, false, .boxi (.t 0)⟩,
  ⟨some 2, none, false, .mv (.c (.bool false))⟩]

def f37r1 : List Abs.Op := [
  ⟨some 3, none, false, .fadr 0 (.t 1)⟩,
  ⟨some 4, none, false, .ld false 1 (.t 3)⟩,
  ⟨some 5, none, false, .call false (.c (.fn i_rock_within [] [])) [(.t 4), (.c (.int .i64 1)), (.c (.int .i64 1000000))]⟩,
  ⟨some 6, none, false, .mv (.t 5)⟩,
  ⟨some 7, some (6, true), false, .fadr 1 (.t 1)⟩,
  ⟨some 8, some (6, true), false, .ld false 1 (.t 7)⟩,
  ⟨some 9, some (6, true), false, .call false (.c (.fn i_rock_within [] [])) [(.t 8), (.c (.int .i64 0)), (.c (.int .i64 10000000000))]⟩,
  ⟨some 10, none, false, .pick (.t 6) (.t 9) (.c (.bool false))⟩,
  ⟨some 11, none, false, .mv (.t 10)⟩,
  ⟨some 12, some (11, true), false, .fadr 2 (.t 1)⟩,
  ⟨some 13, some (11, true), false, .ld false 1 (.t 12)⟩,
  ⟨some 14, some (11, true), false, .call false (.c (.fn i_rock_within [] [])) [(.t 13), (.c (.int .i64 0)), (.c (.int .i64 1000000000000))]⟩,
  ⟨some 15, none, false, .pick (.t 11) (.t 14) (.c (.bool false))⟩,
  ⟨some 2, none, false, .mv (.t 15)⟩]

def a_rock_Block_valid : Ann := ⟨[(1, [2]), (0, [1])], [], [], [], [], [], [], [], [], [], []⟩
def f_rock_Block_valid : Abs.Fn := ⟨1, [.t 2],
  (.seq (.reg [1] f37r0) (.seq (.reg [2] f37r1) .ret))⟩

@[simp] theorem e37r0 : type_of% f37r0.eq_1 := by_rfl f37r0.eq_1
@[simp] theorem e37r1 : type_of% f37r1.eq_1 := by_rfl f37r1.eq_1
theorem e_rock_Block_valid : type_of% f_rock_Block_valid.eq_1 := by_rfl f_rock_Block_valid.eq_1
theorem ok_rock_Block_valid : fnC Try.prog a_rock_Block_valid Try.f37 = some f_rock_Block_valid := by kernel_rfl

/-! 38 (fumarole/rock.bedded).pressure -/
def f38r0 : List Abs.Op := [
  ⟨some 3, none, false, .boxi (.t 0)⟩,
  ⟨some 6, none, false, .mv (.c (.int .i64 0))⟩]

def f38r1 : List Abs.Op := [
  ⟨some 10, none, true, .ld true 11 (.t 3)⟩,
  ⟨some 11, none, true, .mv (.t 2)⟩,
  ⟨some 12, none, true, .call false (.c (.fn i_rock_bedded_weight [] [])) [(.t 10), (.t 11)]⟩,
  ⟨some 13, none, true, .fadr 0 (.t 3)⟩,
  ⟨some 14, none, true, .fadr 5 (.t 13)⟩,
  ⟨some 15, none, true, .ld false 1 (.t 14)⟩,
  ⟨some 16, none, true, .mv (.t 1)⟩,
  ⟨some 17, none, true, .mv (.t 2)⟩,
  ⟨some 18, none, true, .idxS 3 (.t 16) (.t 17)⟩,
  ⟨some 19, none, true, .fadr 0 (.t 18)⟩,
  ⟨some 20, none, true, .ld false 1 (.t 19)⟩,
  ⟨some 21, none, true, .ld true 11 (.t 3)⟩,
  ⟨some 22, none, true, .mv (.t 2)⟩,
  ⟨some 23, none, true, .call false (.c (.fn i_rock_bedded_hold [] [])) [(.t 21), (.t 22)]⟩,
  ⟨some 24, none, true, .bin .sub (.t 20) (.t 23)⟩,
  ⟨some 25, none, true, .bin .mul (.t 15) (.t 24)⟩,
  ⟨some 26, none, true, .ld true 11 (.t 3)⟩,
  ⟨some 27, none, true, .mv (.t 2)⟩,
  ⟨some 28, none, true, .call false (.c (.fn i_rock_bedded_hold [] [])) [(.t 26), (.t 27)]⟩,
  ⟨some 29, none, false, .call false (.c (.fn i_rock_down [] [])) [(.t 25), (.t 28)]⟩,
  ⟨some 30, none, false, .bin .add (.t 12) (.t 29)⟩,
  ⟨some 31, none, false, .mx (.c (.int .i64 0)) (.t 30)⟩,
  ⟨some 7, none, false, .mv (.t 31)⟩]

def f38r2 : List Abs.Op := [
  ⟨some 32, none, false, .fadr 0 (.t 3)⟩,
  ⟨some 33, none, false, .fadr 4 (.t 32)⟩,
  ⟨some 34, none, false, .ld false 1 (.t 33)⟩,
  ⟨some 35, none, false, .lenS (.t 34)⟩,
  ⟨some 36, none, false, .mv (.c (.int .i64 0))⟩]

def f38r3 : List Abs.Op := [
  ⟨some 37, none, false, .bin .lss (.t 36) (.t 35)⟩]

def f38r4 : List Abs.Op := [
  ⟨some 38, none, false, .idxS 5 (.t 34) (.t 36)⟩,
  ⟨some 39, none, false, .ld true 5 (.t 38)⟩,
  ⟨some 9, none, false, .alcv [] [(.int .i64 0), (.int .i64 0), (.int .i64 0), (.int .i64 0), (.int .i64 0)]⟩,
  ⟨none, none, false, .stv 9 [] 5 9 (.t 39)⟩]

def f38r5 : List Abs.Op := [
  ⟨some 40, none, true, .fadr 2 (.t 9)⟩,
  ⟨some 41, none, true, .ldv 9 false 1 40⟩,
  ⟨some 42, none, true, .mv (.t 1)⟩,
  ⟨some 43, none, true, .mv (.t 2)⟩,
  ⟨some 44, none, true, .idxS 3 (.t 42) (.t 43)⟩,
  ⟨some 45, none, true, .fadr 0 (.t 44)⟩,
  ⟨some 46, none, true, .ld false 1 (.t 45)⟩,
  ⟨some 47, none, true, .bin .mul (.t 41) (.t 46)⟩,
  ⟨some 48, none, true, .mv (.t 1)⟩,
  ⟨some 49, none, true, .mv (.t 2)⟩,
  ⟨some 50, none, true, .idxS 3 (.t 48) (.t 49)⟩,
  ⟨some 51, none, true, .fadr 1 (.t 50)⟩,
  ⟨some 52, none, true, .ld false 1 (.t 51)⟩,
  ⟨some 53, none, false, .bin .leq (.t 47) (.t 52)⟩]

def f38r6 : List Abs.Op := [
  ⟨some 54, none, false, .mv (.t 7)⟩,
  ⟨some 55, none, false, .fadr 1 (.t 9)⟩,
  ⟨some 56, none, false, .ldv 9 false 1 55⟩,
  ⟨some 57, none, false, .mx (.t 54) (.t 56)⟩,
  ⟨some 7, none, false, .mv (.t 57)⟩]

def f38r7 : List Abs.Op := [
  ⟨some 58, none, false, .bin .add (.t 36) (.c (.int .i64 1))⟩,
  ⟨some 36, none, false, .mv (.t 58)⟩]

def f_rock_bedded_pressure_l8 : Abs.Cmd :=
  (.seq (.reg [1, 2, 7, 34, 35, 36, 37] f38r3) (.seq (.ite (.t 37) .nop (.exit 0)) (.seq (.blk 1 (.seq (.reg [1, 2, 7, 9, 34, 35, 36] f38r4) (.seq (.reg [1, 2, 7, 9, 34, 35, 36, 53] f38r5) (.ite (.t 53) (.reg [1, 2, 7, 34, 35, 36] f38r6) .nop)))) (.reg [1, 2, 7, 34, 35, 36] f38r7))))

def f38r9 : List Abs.Op := [
  ⟨some 59, none, false, .mv (.t 7)⟩,
  ⟨some 6, none, false, .mv (.t 59)⟩]

def a_rock_bedded_pressure : Ann := ⟨[(8, [6]), (7, [1, 2, 7, 34, 35, 36]), (6, [1, 2, 7, 34, 35, 36]), (5, [1, 2, 7, 9, 34, 35, 36, 53]), (4, [1, 2, 7, 9, 34, 35, 36]), (3, [1, 2, 7, 34, 35, 36, 37]), (2, [1, 2, 7, 34, 35, 36]), (1, [1, 2, 3, 7]), (0, [1, 2, 3])], [(0, [1, 2, 7, 34, 35, 36])], [], [9], [9], [], [], [], [], [], []⟩
def f_rock_bedded_pressure : Abs.Fn := ⟨3, [.t 6],
  (.seq (.reg [1, 2, 3] f38r0) (.seq (.reg [1, 2, 3, 7] f38r1) (.seq (.seq (.reg [1, 2, 7, 34, 35, 36] f38r2) (.blk 0 (.loop [1, 2, 7, 34, 35, 36] false f_rock_bedded_pressure_l8))) (.seq (.reg [6] f38r9) .ret))))⟩

@[simp] theorem e38r0 : type_of% f38r0.eq_1 := by_rfl f38r0.eq_1
@[simp] theorem e38r1 : type_of% f38r1.eq_1 := by_rfl f38r1.eq_1
@[simp] theorem e38r2 : type_of% f38r2.eq_1 := by_rfl f38r2.eq_1
@[simp] theorem e38r3 : type_of% f38r3.eq_1 := by_rfl f38r3.eq_1
@[simp] theorem e38r4 : type_of% f38r4.eq_1 := by_rfl f38r4.eq_1
@[simp] theorem e38r5 : type_of% f38r5.eq_1 := by_rfl f38r5.eq_1
@[simp] theorem e38r6 : type_of% f38r6.eq_1 := by_rfl f38r6.eq_1
@[simp] theorem e38r7 : type_of% f38r7.eq_1 := by_rfl f38r7.eq_1
@[simp] theorem e38r9 : type_of% f38r9.eq_1 := by_rfl f38r9.eq_1
theorem e_rock_bedded_pressure_l8 : type_of% f_rock_bedded_pressure_l8.eq_1 := by_rfl f_rock_bedded_pressure_l8.eq_1
theorem e_rock_bedded_pressure : type_of% f_rock_bedded_pressure.eq_1 := by_rfl f_rock_bedded_pressure.eq_1
theorem ok_rock_bedded_pressure : fnC Try.prog a_rock_bedded_pressure Try.f38 = some f_rock_bedded_pressure := by kernel_rfl

/-! 39 (fumarole/trial.Range).right -/
def f39r0 : List Abs.Op := [
  ⟨some 3, none, false, .boxi (.t 0)⟩,
  ⟨some 6, none, false, .mv (.c (.bool false))⟩]

def f39r1 : List Abs.Op := [
  ⟨some 7, none, false, .mv (.t 1)⟩,
  ⟨some 8, none, false, .fadr 0 (.t 3)⟩,
  ⟨some 9, none, false, .ld false 1 (.t 8)⟩,
  ⟨some 10, none, false, .bin .leq (.t 7) (.t 9)⟩,
  ⟨some 11, none, false, .mv (.t 10)⟩,
  ⟨some 12, some (11, true), false, .fadr 0 (.t 3)⟩,
  ⟨some 13, some (11, true), false, .ld false 1 (.t 12)⟩,
  ⟨some 14, some (11, true), false, .fadr 1 (.t 3)⟩,
  ⟨some 15, some (11, true), false, .ld false 1 (.t 14)⟩,
  ⟨some 16, some (11, true), false, .bin .leq (.t 13) (.t 15)⟩,
  ⟨some 17, none, false, .pick (.t 11) (.t 16) (.c (.bool false))⟩,
  ⟨some 18, none, false, .mv (.t 17)⟩,
  ⟨some 19, some (18, true), false, .fadr 1 (.t 3)⟩,
  ⟨some 20, some (18, true), false, .ld false 1 (.t 19)⟩,
  ⟨some 21, some (18, true), false, .mv (.t 2)⟩,
  ⟨some 22, some (18, true), false, .bin .leq (.t 20) (.t 21)⟩,
  ⟨some 23, none, false, .pick (.t 18) (.t 22) (.c (.bool false))⟩,
  ⟨some 6, none, false, .mv (.t 23)⟩]

def a_trial_Range_right : Ann := ⟨[(1, [6]), (0, [1, 2, 3])], [], [], [], [], [], [], [], [], [], []⟩
def f_trial_Range_right : Abs.Fn := ⟨3, [.t 6],
  (.seq (.reg [1, 2, 3] f39r0) (.seq (.reg [6] f39r1) .ret))⟩

@[simp] theorem e39r0 : type_of% f39r0.eq_1 := by_rfl f39r0.eq_1
@[simp] theorem e39r1 : type_of% f39r1.eq_1 := by_rfl f39r1.eq_1
theorem e_trial_Range_right : type_of% f_trial_Range_right.eq_1 := by_rfl f_trial_Range_right.eq_1
theorem ok_trial_Range_right : fnC Try.prog a_trial_Range_right Try.f39 = some f_trial_Range_right := by kernel_rfl

/-! 40 (fumarole/trial.Range).drops -/
def f40r0 : List Abs.Op := [
  ⟨some 1, none, false, .boxi (.t 0)⟩,
  ⟨some 2, none, false, .mv (.c (.bool false))⟩]

def f40r1 : List Abs.Op := [
  ⟨some 3, none, false, .ld true 2 (.t 1)⟩,
  ⟨some 4, none, false, .call false (.c (.fn i_trial_Range_right [] [])) [(.t 3), (.c (.int .i64 (-2000000000))), (.c (.int .i64 2000000000))]⟩,
  ⟨some 2, none, false, .mv (.t 4)⟩]

def a_trial_Range_drops : Ann := ⟨[(1, [2]), (0, [1])], [], [], [], [], [], [], [], [], [], []⟩
def f_trial_Range_drops : Abs.Fn := ⟨1, [.t 2],
  (.seq (.reg [1] f40r0) (.seq (.reg [2] f40r1) .ret))⟩

@[simp] theorem e40r0 : type_of% f40r0.eq_1 := by_rfl f40r0.eq_1
@[simp] theorem e40r1 : type_of% f40r1.eq_1 := by_rfl f40r1.eq_1
theorem e_trial_Range_drops : type_of% f_trial_Range_drops.eq_1 := by_rfl f_trial_Range_drops.eq_1
theorem ok_trial_Range_drops : fnC Try.prog a_trial_Range_drops Try.f40 = some f_trial_Range_drops := by kernel_rfl

/-! 44 (fumarole/trial.Survey).joined -/
def f44r0 : List Abs.Op := [
  ⟨some 2, none, false, .boxi (.t 0)⟩,
  ⟨some 3, none, false, .boxi (.t 1)⟩,
  ⟨some 4, none, false, .mv (.c (.bool false))⟩]

def f44r1 : List Abs.Op := [
  ⟨some 5, none, false, .fadr 2 (.t 3)⟩,
  ⟨some 6, none, false, .fadr 0 (.t 5)⟩,
  ⟨some 7, none, false, .ld false 1 (.t 6)⟩,
  ⟨some 8, none, false, .fadr 1 (.t 2)⟩,
  ⟨some 9, none, false, .ld false 1 (.t 8)⟩,
  ⟨some 10, none, false, .bin .geq (.t 7) (.t 9)⟩,
  ⟨some 4, none, false, .mv (.t 10)⟩]

def a_trial_Survey_joined : Ann := ⟨[(1, [4]), (0, [2, 3])], [], [], [], [], [], [], [], [], [], []⟩
def f_trial_Survey_joined : Abs.Fn := ⟨2, [.t 4],
  (.seq (.reg [2, 3] f44r0) (.seq (.reg [4] f44r1) .ret))⟩

@[simp] theorem e44r0 : type_of% f44r0.eq_1 := by_rfl f44r0.eq_1
@[simp] theorem e44r1 : type_of% f44r1.eq_1 := by_rfl f44r1.eq_1
theorem e_trial_Survey_joined : type_of% f_trial_Survey_joined.eq_1 := by_rfl f_trial_Survey_joined.eq_1
theorem ok_trial_Survey_joined : fnC Try.prog a_trial_Survey_joined Try.f44 = some f_trial_Survey_joined := by kernel_rfl

/-! 45 (fumarole/trial.Survey).apart -/
def f45r0 : List Abs.Op := [
  ⟨some 2, none, false, .boxi (.t 0)⟩,
  ⟨some 3, none, false, .boxi (.t 1)⟩,
  ⟨some 4, none, false, .mv (.c (.bool false))⟩]

def f45r1 : List Abs.Op := [
  ⟨some 5, none, false, .fadr 2 (.t 3)⟩,
  ⟨some 6, none, false, .fadr 1 (.t 5)⟩,
  ⟨some 7, none, false, .ld false 1 (.t 6)⟩,
  ⟨some 8, none, false, .fadr 1 (.t 2)⟩,
  ⟨some 9, none, false, .ld false 1 (.t 8)⟩,
  ⟨some 10, none, false, .bin .lss (.t 7) (.t 9)⟩,
  ⟨some 4, none, false, .mv (.t 10)⟩]

def a_trial_Survey_apart : Ann := ⟨[(1, [4]), (0, [2, 3])], [], [], [], [], [], [], [], [], [], []⟩
def f_trial_Survey_apart : Abs.Fn := ⟨2, [.t 4],
  (.seq (.reg [2, 3] f45r0) (.seq (.reg [4] f45r1) .ret))⟩

@[simp] theorem e45r0 : type_of% f45r0.eq_1 := by_rfl f45r0.eq_1
@[simp] theorem e45r1 : type_of% f45r1.eq_1 := by_rfl f45r1.eq_1
theorem e_trial_Survey_apart : type_of% f_trial_Survey_apart.eq_1 := by_rfl f_trial_Survey_apart.eq_1
theorem ok_trial_Survey_apart : fnC Try.prog a_trial_Survey_apart Try.f45 = some f_trial_Survey_apart := by kernel_rfl

/-! 46 (fumarole/trial.Survey).groups -/
def f46r0 : List Abs.Op := [
  ⟨some 1, none, false, .boxi (.t 0)⟩,
  ⟨some 2, none, false, .alcv [] [(.int .i64 0), (.int .i64 0), .nils, (.int .i64 0), (.int .i64 0), (.int .i64 0), (.int .i64 0), (.int .i64 0), (.int .i64 0), (.int .i64 0), (.int .i64 0), (.int .i64 0), (.int .i64 0)]⟩]

def f46r1 : List Abs.Op := [
  ⟨some 9, none, false, .ld true 3 (.t 1)⟩,
  ⟨some 10, none, false, .bld [(.int .i64 0), (.int .i64 0), .nils, (.int .i64 0), (.int .i64 0), (.int .i64 0), (.int .i64 0), (.int .i64 0), (.int .i64 0), (.int .i64 0), (.int .i64 0), (.int .i64 0), (.int .i64 0)] [(0, 3, (.t 9))]⟩,
  ⟨some 3, none, false, .alcv [] [(.int .i64 0), (.int .i64 0), .nils, (.int .i64 0), (.int .i64 0), (.int .i64 0), (.int .i64 0), (.int .i64 0), (.int .i64 0), (.int .i64 0), (.int .i64 0), (.int .i64 0), (.int .i64 0)]⟩,
  ⟨none, none, false, .stv 3 [] 13 3 (.t 10)⟩]

def f46r2 : List Abs.Op := [
  ⟨some 11, none, false, .mv (.c (.int .i64 0))⟩]

def f46r3 : List Abs.Op := [
  ⟨some 12, none, false, .bin .lss (.t 11) (.c (.int .i64 10))⟩]

def f46r4 : List Abs.Op := [
  ⟨some 13, none, false, .mv (.t 11)⟩,
  ⟨some 4, none, false, .mv (.t 13)⟩]

def f46r5 : List Abs.Op := [
  ⟨some 14, none, false, .mv (.t 4)⟩,
  ⟨some 15, none, false, .mv (.t 4)⟩,
  ⟨some 16, none, false, .fadr 3 (.t 3)⟩,
  ⟨some 17, none, false, .idxA 10 1 (.t 16) (.t 14)⟩,
  ⟨none, none, false, .stv 3 [] 1 17 (.t 15)⟩]

def f46r6 : List Abs.Op := [
  ⟨some 18, none, false, .bin .add (.t 11) (.c (.int .i64 1))⟩,
  ⟨some 11, none, false, .mv (.t 18)⟩]

def f_trial_Survey_groups_l7 : Abs.Cmd :=
  (.seq (.reg [1, 2, 3, 11, 12] f46r3) (.seq (.ite (.t 12) .nop (.exit 0)) (.seq (.blk 1 (.seq (.reg [1, 2, 3, 4, 11] f46r4) (.reg [1, 2, 3, 11] f46r5))) (.reg [1, 2, 3, 11] f46r6))))

def f46r8 : List Abs.Op := [
  ⟨some 19, none, false, .fadr 3 (.t 3)⟩,
  ⟨some 20, none, false, .ldv 3 true 10 19⟩,
  ⟨some 5, none, false, .alcv [] [(.int .i64 0), (.int .i64 0), (.int .i64 0), (.int .i64 0), (.int .i64 0), (.int .i64 0), (.int .i64 0), (.int .i64 0), (.int .i64 0), (.int .i64 0)]⟩,
  ⟨none, none, false, .stv 5 [] 10 5 (.t 20)⟩]

def f46r9 : List Abs.Op := [
  ⟨some 21, none, false, .fadr 2 (.t 1)⟩,
  ⟨some 22, none, false, .ld false 1 (.t 21)⟩,
  ⟨some 23, none, false, .lenS (.t 22)⟩,
  ⟨some 24, none, false, .mv (.c (.int .i64 0))⟩]

def f46r10 : List Abs.Op := [
  ⟨some 25, none, false, .bin .lss (.t 24) (.t 23)⟩]

def f46r11 : List Abs.Op := [
  ⟨some 26, none, false, .idxS 4 (.t 22) (.t 24)⟩,
  ⟨some 27, none, false, .ld true 4 (.t 26)⟩,
  ⟨some 7, none, false, .alcv [] [(.int .i64 0), (.int .i64 0), (.int .i64 0), (.int .i64 0)]⟩,
  ⟨none, none, false, .stv 7 [] 4 7 (.t 27)⟩]

def f46r12 : List Abs.Op := [
  ⟨some 28, none, false, .ld true 3 (.t 1)⟩,
  ⟨some 29, none, false, .ldv 7 true 4 7⟩,
  ⟨some 30, none, false, .call false (.c (.fn i_trial_Survey_joined [] [])) [(.t 28), (.t 29)]⟩]

def f46r13 : List Abs.Op := [
  ⟨some 31, none, true, .fadr 0 (.t 7)⟩,
  ⟨some 32, none, true, .ldv 7 false 1 31⟩,
  ⟨some 33, none, true, .fadr 3 (.t 3)⟩,
  ⟨some 34, none, true, .idxA 10 1 (.t 33) (.t 32)⟩,
  ⟨some 35, none, true, .ldv 3 false 1 34⟩,
  ⟨some 36, none, true, .fadr 1 (.t 7)⟩,
  ⟨some 37, none, true, .ldv 7 false 1 36⟩,
  ⟨some 38, none, true, .fadr 3 (.t 3)⟩,
  ⟨some 39, none, true, .idxA 10 1 (.t 38) (.t 37)⟩,
  ⟨some 40, none, true, .ldv 3 false 1 39⟩,
  ⟨some 41, none, false, .mn (.t 35) (.t 40)⟩,
  ⟨some 8, none, false, .mv (.t 41)⟩]

def f46r14 : List Abs.Op := [
  ⟨some 42, none, true, .fadr 0 (.t 7)⟩,
  ⟨some 43, none, true, .ldv 7 false 1 42⟩,
  ⟨some 44, none, true, .fadr 1 (.t 7)⟩,
  ⟨some 45, none, true, .ldv 7 false 1 44⟩,
  ⟨some 46, none, true, .mv (.t 8)⟩,
  ⟨some 47, none, true, .mv (.t 8)⟩,
  ⟨some 48, none, true, .fadr 3 (.t 3)⟩,
  ⟨some 49, none, true, .idxA 10 1 (.t 48) (.t 43)⟩,
  ⟨none, none, true, .stv 3 [] 1 49 (.t 46)⟩,
  ⟨some 50, none, true, .fadr 3 (.t 3)⟩,
  ⟨some 51, none, false, .idxA 10 1 (.t 50) (.t 45)⟩,
  ⟨none, none, false, .stv 3 [] 1 51 (.t 47)⟩]

def f46r15 : List Abs.Op := [
  ⟨some 52, none, false, .bin .add (.t 24) (.c (.int .i64 1))⟩,
  ⟨some 24, none, false, .mv (.t 52)⟩]

def f_trial_Survey_groups_l16 : Abs.Cmd :=
  (.seq (.reg [1, 2, 3, 5, 22, 23, 24, 25] f46r10) (.seq (.ite (.t 25) .nop (.exit 4)) (.seq (.blk 5 (.seq (.reg [1, 2, 3, 5, 7, 22, 23, 24] f46r11) (.seq (.reg [1, 2, 3, 5, 7, 22, 23, 24, 30] f46r12) (.ite (.t 30) (.seq (.reg [1, 2, 3, 5, 7, 8, 22, 23, 24] f46r13) (.reg [1, 2, 3, 5, 22, 23, 24] f46r14)) .nop)))) (.reg [1, 2, 3, 5, 22, 23, 24] f46r15))))

def f46r17 : List Abs.Op := [
  ⟨some 53, none, false, .fadr 3 (.t 3)⟩,
  ⟨some 54, none, false, .ldv 3 true 10 53⟩,
  ⟨some 55, none, false, .ldv 5 true 10 5⟩,
  ⟨some 56, none, false, .eqv true [some .i64, some .i64, some .i64, some .i64, some .i64, some .i64, some .i64, some .i64, some .i64, some .i64] false (.t 54) (.t 55)⟩]

def f46r18 : List Abs.Op := [
  ⟨some 57, none, false, .ldv 3 true 13 3⟩,
  ⟨none, none, false, .stv 2 [] 13 2 (.t 57)⟩]

def f_trial_Survey_groups_l19 : Abs.Cmd :=
  (.blk 3 (.seq (.reg [1, 2, 3, 5] f46r8) (.seq (.seq (.reg [1, 2, 3, 5, 22, 23, 24] f46r9) (.blk 4 (.loop [1, 2, 3, 5, 22, 23, 24] false f_trial_Survey_groups_l16))) (.seq (.reg [1, 2, 3, 56] f46r17) (.ite (.t 56) (.seq (.reg [2] f46r18) .ret) .nop)))))

def a_trial_Survey_groups : Ann := ⟨[(16, [2]), (15, [1, 2, 3, 56]), (14, [1, 2, 3, 5, 22, 23, 24]), (13, [1, 2, 3, 5, 22, 23, 24]), (12, [1, 2, 3, 5, 7, 8, 22, 23, 24]), (11, [1, 2, 3, 5, 7, 22, 23, 24, 30]), (10, [1, 2, 3, 5, 7, 22, 23, 24]), (9, [1, 2, 3, 5, 22, 23, 24, 25]), (8, [1, 2, 3, 5, 22, 23, 24]), (7, [1, 2, 3, 5]), (6, [1, 2, 3, 11]), (5, [1, 2, 3, 11]), (4, [1, 2, 3, 4, 11]), (3, [1, 2, 3, 11, 12]), (2, [1, 2, 3, 11]), (1, [1, 2, 3]), (0, [1, 2])], [(4, [1, 2, 3, 5, 22, 23, 24]), (2, [1, 2, 3]), (0, [1, 2, 3, 11])], [], [2, 3, 5, 7], [2, 3, 5, 7], [], [], [], [], [], []⟩
def f_trial_Survey_groups : Abs.Fn := ⟨1, [.v 2 true 13],
  (.seq (.reg [1, 2] f46r0) (.seq (.reg [1, 2, 3] f46r1) (.seq (.seq (.reg [1, 2, 3, 11] f46r2) (.blk 0 (.loop [1, 2, 3, 11] false f_trial_Survey_groups_l7))) (.blk 2 (.loop [1, 2, 3] false f_trial_Survey_groups_l19)))))⟩

@[simp] theorem e46r0 : type_of% f46r0.eq_1 := by_rfl f46r0.eq_1
@[simp] theorem e46r1 : type_of% f46r1.eq_1 := by_rfl f46r1.eq_1
@[simp] theorem e46r2 : type_of% f46r2.eq_1 := by_rfl f46r2.eq_1
@[simp] theorem e46r3 : type_of% f46r3.eq_1 := by_rfl f46r3.eq_1
@[simp] theorem e46r4 : type_of% f46r4.eq_1 := by_rfl f46r4.eq_1
@[simp] theorem e46r5 : type_of% f46r5.eq_1 := by_rfl f46r5.eq_1
@[simp] theorem e46r6 : type_of% f46r6.eq_1 := by_rfl f46r6.eq_1
@[simp] theorem e46r8 : type_of% f46r8.eq_1 := by_rfl f46r8.eq_1
@[simp] theorem e46r9 : type_of% f46r9.eq_1 := by_rfl f46r9.eq_1
@[simp] theorem e46r10 : type_of% f46r10.eq_1 := by_rfl f46r10.eq_1
@[simp] theorem e46r11 : type_of% f46r11.eq_1 := by_rfl f46r11.eq_1
@[simp] theorem e46r12 : type_of% f46r12.eq_1 := by_rfl f46r12.eq_1
@[simp] theorem e46r13 : type_of% f46r13.eq_1 := by_rfl f46r13.eq_1
@[simp] theorem e46r14 : type_of% f46r14.eq_1 := by_rfl f46r14.eq_1
@[simp] theorem e46r15 : type_of% f46r15.eq_1 := by_rfl f46r15.eq_1
@[simp] theorem e46r17 : type_of% f46r17.eq_1 := by_rfl f46r17.eq_1
@[simp] theorem e46r18 : type_of% f46r18.eq_1 := by_rfl f46r18.eq_1
theorem e_trial_Survey_groups_l7 : type_of% f_trial_Survey_groups_l7.eq_1 := by_rfl f_trial_Survey_groups_l7.eq_1
theorem e_trial_Survey_groups_l16 : type_of% f_trial_Survey_groups_l16.eq_1 := by_rfl f_trial_Survey_groups_l16.eq_1
theorem e_trial_Survey_groups_l19 : type_of% f_trial_Survey_groups_l19.eq_1 := by_rfl f_trial_Survey_groups_l19.eq_1
theorem e_trial_Survey_groups : type_of% f_trial_Survey_groups.eq_1 := by_rfl f_trial_Survey_groups.eq_1
theorem ok_trial_Survey_groups : fnC Try.prog a_trial_Survey_groups Try.f46 = some f_trial_Survey_groups := by kernel_rfl

/-! 47 (fumarole/trial.parted).clash -/
def f47r0 : List Abs.Op := [
  ⟨some 1, none, false, .boxi (.t 0)⟩,
  ⟨some 2, none, false, .mv (.c (.int .i64 0))⟩]

def f47r1 : List Abs.Op := [
  ⟨some 3, none, false, .fadr 0 (.t 1)⟩,
  ⟨some 4, none, false, .fadr 2 (.t 3)⟩,
  ⟨some 5, none, false, .ld false 1 (.t 4)⟩,
  ⟨some 6, none, false, .mkf i_trial_parted_clash_1 [] [(.t 1)]⟩,
  ⟨some 7, none, false, .call false (.c (.fn i_slices_IndexFunc_trial_Seen [] [])) [(.t 5), (.t 6)]⟩,
  ⟨some 2, none, false, .mv (.t 7)⟩]

def a_trial_parted_clash : Ann := ⟨[(1, [2]), (0, [1])], [], [], [], [], [], [], [], [], [], []⟩
def f_trial_parted_clash : Abs.Fn := ⟨1, [.t 2],
  (.seq (.reg [1] f47r0) (.seq (.reg [2] f47r1) .ret))⟩

@[simp] theorem e47r0 : type_of% f47r0.eq_1 := by_rfl f47r0.eq_1
@[simp] theorem e47r1 : type_of% f47r1.eq_1 := by_rfl f47r1.eq_1
theorem e_trial_parted_clash : type_of% f_trial_parted_clash.eq_1 := by_rfl f_trial_parted_clash.eq_1
theorem ok_trial_parted_clash : fnC Try.prog a_trial_parted_clash Try.f47 = some f_trial_parted_clash := by kernel_rfl

/-! 48 fumarole/field.CheckField -/
def f48r0 : List Abs.Op := [
  ⟨some 1, none, false, .boxi (.t 0)⟩,
  ⟨some 2, none, false, .mv (.c (.int .i64 0))⟩]

def f48r1 : List Abs.Op := [
  ⟨some 3, none, false, .ld true 4 (.t 1)⟩,
  ⟨some 4, none, false, .call false (.c (.fn i_field_Field_shape [] [])) [(.t 3)]⟩,
  ⟨some 2, none, false, .mv (.t 4)⟩]

def a_field_CheckField : Ann := ⟨[(1, [2]), (0, [1])], [], [], [], [], [], [], [], [], [], []⟩
def f_field_CheckField : Abs.Fn := ⟨1, [.t 2],
  (.seq (.reg [1] f48r0) (.seq (.reg [2] f48r1) .ret))⟩

@[simp] theorem e48r0 : type_of% f48r0.eq_1 := by_rfl f48r0.eq_1
@[simp] theorem e48r1 : type_of% f48r1.eq_1 := by_rfl f48r1.eq_1
theorem e_field_CheckField : type_of% f_field_CheckField.eq_1 := by_rfl f_field_CheckField.eq_1
theorem ok_field_CheckField : fnC Try.prog a_field_CheckField Try.f48 = some f_field_CheckField := by kernel_rfl

/-! 49 fumarole/steam.CheckTable -/
def f49r0 : List Abs.Op := [
  ⟨some 2, none, false, .mv (.c (.int .i64 0))⟩]

def f49r1 : List Abs.Op := [
  ⟨some 3, none, false, .mv (.t 0)⟩,
  ⟨some 4, none, false, .call false (.c (.fn i_steam_Table_valid [] [])) [(.t 3)]⟩,
  ⟨some 5, none, false, .un .not (.t 4)⟩]

def f49r2 : List Abs.Op := [
  ⟨some 2, none, false, .mv (.c (.int .i64 1))⟩]

def f49r3 : List Abs.Op := [
  ⟨some 2, none, false, .mv (.c (.int .i64 0))⟩]

def a_steam_CheckTable : Ann := ⟨[(3, [2]), (2, [2]), (1, [5]), (0, [0])], [], [], [], [], [], [], [], [], [], []⟩
def f_steam_CheckTable : Abs.Fn := ⟨1, [.t 2],
  (.seq (.reg [0] f49r0) (.seq (.seq (.reg [5] f49r1) (.ite (.t 5) (.seq (.reg [2] f49r2) .ret) .nop)) (.seq (.reg [2] f49r3) .ret)))⟩

@[simp] theorem e49r0 : type_of% f49r0.eq_1 := by_rfl f49r0.eq_1
@[simp] theorem e49r1 : type_of% f49r1.eq_1 := by_rfl f49r1.eq_1
@[simp] theorem e49r2 : type_of% f49r2.eq_1 := by_rfl f49r2.eq_1
@[simp] theorem e49r3 : type_of% f49r3.eq_1 := by_rfl f49r3.eq_1
theorem e_steam_CheckTable : type_of% f_steam_CheckTable.eq_1 := by_rfl f_steam_CheckTable.eq_1
theorem ok_steam_CheckTable : fnC Try.prog a_steam_CheckTable Try.f49 = some f_steam_CheckTable := by kernel_rfl

/-! 50 fumarole/rock.within -/
def f50r0 : List Abs.Op := [
  ⟨some 6, none, false, .mv (.c (.bool false))⟩]

def f50r1 : List Abs.Op := [
  ⟨some 7, none, false, .mv (.t 1)⟩,
  ⟨some 8, none, false, .mv (.t 0)⟩,
  ⟨some 9, none, false, .bin .leq (.t 7) (.t 8)⟩,
  ⟨some 10, none, false, .mv (.t 9)⟩,
  ⟨some 11, some (10, true), false, .mv (.t 0)⟩,
  ⟨some 12, some (10, true), false, .mv (.t 2)⟩,
  ⟨some 13, some (10, true), false, .bin .leq (.t 11) (.t 12)⟩,
  ⟨some 14, none, false, .pick (.t 10) (.t 13) (.c (.bool false))⟩,
  ⟨some 6, none, false, .mv (.t 14)⟩]

def a_rock_within : Ann := ⟨[(1, [6]), (0, [0, 1, 2])], [], [], [], [], [], [], [], [], [], []⟩
def f_rock_within : Abs.Fn := ⟨3, [.t 6],
  (.seq (.reg [0, 1, 2] f50r0) (.seq (.reg [6] f50r1) .ret))⟩

@[simp] theorem e50r0 : type_of% f50r0.eq_1 := by_rfl f50r0.eq_1
@[simp] theorem e50r1 : type_of% f50r1.eq_1 := by_rfl f50r1.eq_1
theorem e_rock_within : type_of% f_rock_within.eq_1 := by_rfl f_rock_within.eq_1
theorem ok_rock_within : fnC Try.prog a_rock_within Try.f50 = some f_rock_within := by kernel_rfl

/-! 51 fumarole/rock.all[fumarole/rock.Bore] -/
def f51r0 : List Abs.Op := [
  ⟨some 3, none, false, .boxi (.t 1)⟩,
  ⟨some 4, none, false, .mv (.c (.bool false))⟩]

def f51r1 : List Abs.Op := [
  ⟨some 5, none, false, .mv (.t 0)⟩,
  ⟨some 6, none, false, .mkf i_rock_all_rock_Bore_1 [] [(.t 3)]⟩,
  ⟨some 7, none, false, .call false (.c (.fn i_slices_ContainsFunc_rock_Bore [] [])) [(.t 5), (.t 6)]⟩,
  ⟨some 8, none, false, .un .not (.t 7)⟩,
  ⟨some 4, none, false, .mv (.t 8)⟩]

def a_rock_all_rock_Bore : Ann := ⟨[(1, [4]), (0, [0, 3])], [], [], [], [], [], [], [], [], [], []⟩
def f_rock_all_rock_Bore : Abs.Fn := ⟨2, [.t 4],
  (.seq (.reg [0, 3] f51r0) (.seq (.reg [4] f51r1) .ret))⟩

@[simp] theorem e51r0 : type_of% f51r0.eq_1 := by_rfl f51r0.eq_1
@[simp] theorem e51r1 : type_of% f51r1.eq_1 := by_rfl f51r1.eq_1
theorem e_rock_all_rock_Bore : type_of% f_rock_all_rock_Bore.eq_1 := by_rfl f_rock_all_rock_Bore.eq_1
theorem ok_rock_all_rock_Bore : fnC Try.prog a_rock_all_rock_Bore Try.f51 = some f_rock_all_rock_Bore := by kernel_rfl

/-! 52 (fumarole/rock.Bed).valid$1 -/
def f52r0 : List Abs.Op := [
  ⟨some 2, none, false, .boxi (.t 0)⟩,
  ⟨some 3, none, false, .mv (.c (.bool false))⟩]

def f52r1 : List Abs.Op := [
  ⟨some 4, none, false, .fadr 0 (.t 2)⟩,
  ⟨some 5, none, false, .ld false 1 (.t 4)⟩,
  ⟨some 6, none, false, .ld false 1 (.t 1)⟩,
  ⟨some 7, none, false, .lenS (.t 6)⟩,
  ⟨some 8, none, false, .bin .sub (.t 7) (.c (.int .i64 1))⟩,
  ⟨some 9, none, false, .call false (.c (.fn i_rock_within [] [])) [(.t 5), (.c (.int .i64 0)), (.t 8)]⟩,
  ⟨some 10, none, false, .un .not (.t 9)⟩,
  ⟨some 11, none, false, .mv (.t 10)⟩,
  ⟨some 12, some (11, false), false, .ld false 1 (.t 1)⟩,
  ⟨some 13, some (11, false), false, .fadr 0 (.t 2)⟩,
  ⟨some 14, some (11, false), false, .ld false 1 (.t 13)⟩,
  ⟨some 15, some (11, false), false, .idxS 1 (.t 12) (.t 14)⟩,
  ⟨some 16, some (11, false), false, .ld false 1 (.t 15)⟩,
  ⟨some 17, none, false, .pick (.t 11) (.c (.bool true)) (.t 16)⟩]

def f52r2 : List Abs.Op := [
  ⟨some 3, none, false, .mv (.c (.bool false))⟩]

def f52r3 : List Abs.Op := [
  ⟨some 18, none, false, .ld false 1 (.t 1)⟩,
  ⟨some 19, none, false, .fadr 0 (.t 2)⟩,
  ⟨some 20, none, false, .ld false 1 (.t 19)⟩,
  ⟨some 21, none, false, .idxS 1 (.t 18) (.t 20)⟩,
  ⟨none, none, false, .st [] 1 (.t 21) (.c (.bool true))⟩]

def f52r4 : List Abs.Op := [
  ⟨some 22, none, false, .fadr 1 (.t 2)⟩,
  ⟨some 23, none, false, .ld false 1 (.t 22)⟩,
  ⟨some 24, none, false, .call false (.c (.fn i_rock_within [] [])) [(.t 23), (.c (.int .i64 0)), (.c (.int .i64 3000))]⟩,
  ⟨some 25, none, false, .mv (.t 24)⟩,
  ⟨some 26, some (25, true), false, .fadr 2 (.t 2)⟩,
  ⟨some 27, some (25, true), false, .ld false 1 (.t 26)⟩,
  ⟨some 28, some (25, true), false, .call false (.c (.fn i_rock_within [] [])) [(.t 27), (.c (.int .i64 0)), (.c (.int .i64 1000000))]⟩,
  ⟨some 29, none, false, .pick (.t 25) (.t 28) (.c (.bool false))⟩,
  ⟨some 3, none, false, .mv (.t 29)⟩]

def a_rock_Bed_valid_1 : Ann := ⟨[(4, [3]), (3, [2]), (2, [3]), (1, [1, 2, 17]), (0, [1, 2])], [], [], [], [], [], [], [], [], [], []⟩
def f_rock_Bed_valid_1 : Abs.Fn := ⟨2, [.t 3],
  (.seq (.reg [1, 2] f52r0) (.seq (.seq (.reg [1, 2, 17] f52r1) (.ite (.t 17) (.seq (.reg [3] f52r2) .ret) .nop)) (.seq (.reg [2] f52r3) (.seq (.reg [3] f52r4) .ret))))⟩

@[simp] theorem e52r0 : type_of% f52r0.eq_1 := by_rfl f52r0.eq_1
@[simp] theorem e52r1 : type_of% f52r1.eq_1 := by_rfl f52r1.eq_1
@[simp] theorem e52r2 : type_of% f52r2.eq_1 := by_rfl f52r2.eq_1
@[simp] theorem e52r3 : type_of% f52r3.eq_1 := by_rfl f52r3.eq_1
@[simp] theorem e52r4 : type_of% f52r4.eq_1 := by_rfl f52r4.eq_1
theorem e_rock_Bed_valid_1 : type_of% f_rock_Bed_valid_1.eq_1 := by_rfl f_rock_Bed_valid_1.eq_1
theorem ok_rock_Bed_valid_1 : fnC Try.prog a_rock_Bed_valid_1 Try.f52 = some f_rock_Bed_valid_1 := by kernel_rfl

/-! 53 fumarole/field.CheckModels -/
def f53r0 : List Abs.Op := [
  ⟨some 2, none, false, .boxi (.t 0)⟩,
  ⟨some 3, none, false, .boxi (.t 1)⟩,
  ⟨some 4, none, false, .mv (.c (.int .i64 0))⟩]

def f53r1 : List Abs.Op := [
  ⟨some 5, none, false, .ld true 4 (.t 2)⟩,
  ⟨some 6, none, false, .mkf i_field_Field_shape [(.t 5)] []⟩,
  ⟨some 7, none, false, .mkf i_field_CheckModels_1 [] [(.t 2), (.t 3)]⟩,
  ⟨some 8, none, false, .bsi 2 1 [.nilf, .nilf] [(0, 1, (.t 6)), (1, 1, (.t 7))]⟩,
  ⟨some 9, none, false, .call false (.c (.fn i_field_first [] [])) [(.t 8)]⟩,
  ⟨some 4, none, false, .mv (.t 9)⟩]

def a_field_CheckModels : Ann := ⟨[(1, [4]), (0, [2, 3])], [], [], [], [], [], [], [], [], [], []⟩
def f_field_CheckModels : Abs.Fn := ⟨2, [.t 4],
  (.seq (.reg [2, 3] f53r0) (.seq (.reg [4] f53r1) .ret))⟩

@[simp] theorem e53r0 : type_of% f53r0.eq_1 := by_rfl f53r0.eq_1
@[simp] theorem e53r1 : type_of% f53r1.eq_1 := by_rfl f53r1.eq_1
theorem e_field_CheckModels : type_of% f_field_CheckModels.eq_1 := by_rfl f_field_CheckModels.eq_1
theorem ok_field_CheckModels : fnC Try.prog a_field_CheckModels Try.f53 = some f_field_CheckModels := by kernel_rfl

/-! 54 fumarole/rock.all[int] -/
def f54r0 : List Abs.Op := [
  ⟨some 3, none, false, .boxi (.t 1)⟩,
  ⟨some 4, none, false, .mv (.c (.bool false))⟩]

def f54r1 : List Abs.Op := [
  ⟨some 5, none, false, .mv (.t 0)⟩,
  ⟨some 6, none, false, .mkf i_rock_all_int_1 [] [(.t 3)]⟩,
  ⟨some 7, none, false, .call false (.c (.fn i_slices_ContainsFunc_int [] [])) [(.t 5), (.t 6)]⟩,
  ⟨some 8, none, false, .un .not (.t 7)⟩,
  ⟨some 4, none, false, .mv (.t 8)⟩]

def a_rock_all_int : Ann := ⟨[(1, [4]), (0, [0, 3])], [], [], [], [], [], [], [], [], [], []⟩
def f_rock_all_int : Abs.Fn := ⟨2, [.t 4],
  (.seq (.reg [0, 3] f54r0) (.seq (.reg [4] f54r1) .ret))⟩

@[simp] theorem e54r0 : type_of% f54r0.eq_1 := by_rfl f54r0.eq_1
@[simp] theorem e54r1 : type_of% f54r1.eq_1 := by_rfl f54r1.eq_1
theorem e_rock_all_int : type_of% f_rock_all_int.eq_1 := by_rfl f_rock_all_int.eq_1
theorem ok_rock_all_int : fnC Try.prog a_rock_all_int Try.f54 = some f_rock_all_int := by kernel_rfl

/-! 55 (fumarole/rock.bedded).kind -/
def f55r0 : List Abs.Op := [
  ⟨some 2, none, false, .boxi (.t 0)⟩,
  ⟨some 4, none, false, .mv (.c .nils)⟩]

def f55r1 : List Abs.Op := [
  ⟨some 5, none, true, .fadr 9 (.t 2)⟩,
  ⟨some 6, none, true, .fadr 1 (.t 5)⟩,
  ⟨some 7, none, true, .ld false 1 (.t 6)⟩,
  ⟨some 8, none, true, .mv (.t 1)⟩,
  ⟨some 9, none, true, .fadr 0 (.t 2)⟩,
  ⟨some 10, none, true, .ld true 9 (.t 9)⟩,
  ⟨some 11, none, true, .call false (.c (.fn i_rock_Bed_size [] [])) [(.t 10)]⟩,
  ⟨some 12, none, true, .bin .mul (.t 8) (.t 11)⟩,
  ⟨some 13, none, true, .mv (.t 1)⟩,
  ⟨some 14, none, true, .bin .add (.t 13) (.c (.int .i64 1))⟩,
  ⟨some 15, none, true, .fadr 0 (.t 2)⟩,
  ⟨some 16, none, true, .ld true 9 (.t 15)⟩,
  ⟨some 17, none, true, .call false (.c (.fn i_rock_Bed_size [] [])) [(.t 16)]⟩,
  ⟨some 18, none, true, .bin .mul (.t 14) (.t 17)⟩,
  ⟨some 19, none, false, .slc 1 (.t 7) (some (.t 12)) (some (.t 18)) none⟩,
  ⟨some 4, none, false, .mv (.t 19)⟩]

def a_rock_bedded_kind : Ann := ⟨[(1, [4]), (0, [1, 2])], [], [], [], [], [], [], [], [], [], []⟩
def f_rock_bedded_kind : Abs.Fn := ⟨2, [.t 4],
  (.seq (.reg [1, 2] f55r0) (.seq (.reg [4] f55r1) .ret))⟩

@[simp] theorem e55r0 : type_of% f55r0.eq_1 := by_rfl f55r0.eq_1
@[simp] theorem e55r1 : type_of% f55r1.eq_1 := by_rfl f55r1.eq_1
theorem e_rock_bedded_kind : type_of% f_rock_bedded_kind.eq_1 := by_rfl f_rock_bedded_kind.eq_1
theorem ok_rock_bedded_kind : fnC Try.prog a_rock_bedded_kind Try.f55 = some f_rock_bedded_kind := by kernel_rfl

/-! 56 (fumarole/rock.bedded).fits$1 -/
def f56r0 : List Abs.Op := [
  ⟨some 3, none, false, .mv (.c (.bool false))⟩]

def f56r1 : List Abs.Op := [
  ⟨some 4, none, false, .mv (.t 0)⟩,
  ⟨some 5, none, false, .idxA 2 1 (.t 1) (.c (.int .i64 0))⟩,
  ⟨some 6, none, false, .ld false 1 (.t 5)⟩,
  ⟨some 7, none, false, .idxA 2 1 (.t 1) (.c (.int .i64 1))⟩,
  ⟨some 8, none, false, .ld false 1 (.t 7)⟩,
  ⟨some 9, none, false, .call false (.c (.fn i_rock_within [] [])) [(.t 4), (.t 6), (.t 8)]⟩,
  ⟨some 3, none, false, .mv (.t 9)⟩]

def a_rock_bedded_fits_1 : Ann := ⟨[(1, [3]), (0, [0, 1])], [], [], [], [], [], [], [], [], [], []⟩
def f_rock_bedded_fits_1 : Abs.Fn := ⟨2, [.t 3],
  (.seq (.reg [0, 1] f56r0) (.seq (.reg [3] f56r1) .ret))⟩

@[simp] theorem e56r0 : type_of% f56r0.eq_1 := by_rfl f56r0.eq_1
@[simp] theorem e56r1 : type_of% f56r1.eq_1 := by_rfl f56r1.eq_1
theorem e_rock_bedded_fits_1 : type_of% f_rock_bedded_fits_1.eq_1 := by_rfl f_rock_bedded_fits_1.eq_1
theorem ok_rock_bedded_fits_1 : fnC Try.prog a_rock_bedded_fits_1 Try.f56 = some f_rock_bedded_fits_1 := by kernel_rfl

/-! 57 (fumarole/rock.Bed).rates$1 -/
def f57r0 : List Abs.Op := [
  ⟨some 2, none, false, .mv (.c (.bool false))⟩]

def f57r1 : List Abs.Op := [
  ⟨some 3, none, false, .mv (.t 0)⟩,
  ⟨some 4, none, false, .call false (.c (.fn i_rock_within [] [])) [(.t 3), (.c (.int .i64 (-100000))), (.c (.int .i64 100000))]⟩,
  ⟨some 2, none, false, .mv (.t 4)⟩]

def a_rock_Bed_rates_1 : Ann := ⟨[(1, [2]), (0, [0])], [], [], [], [], [], [], [], [], [], []⟩
def f_rock_Bed_rates_1 : Abs.Fn := ⟨1, [.t 2],
  (.seq (.reg [0] f57r0) (.seq (.reg [2] f57r1) .ret))⟩

@[simp] theorem e57r0 : type_of% f57r0.eq_1 := by_rfl f57r0.eq_1
@[simp] theorem e57r1 : type_of% f57r1.eq_1 := by_rfl f57r1.eq_1
theorem e_rock_Bed_rates_1 : type_of% f_rock_Bed_rates_1.eq_1 := by_rfl f_rock_Bed_rates_1.eq_1
theorem ok_rock_Bed_rates_1 : fnC Try.prog a_rock_Bed_rates_1 Try.f57 = some f_rock_Bed_rates_1 := by kernel_rfl

/-! 58 (fumarole/rock.bedded).hold -/
def f58r0 : List Abs.Op := [
  ⟨some 2, none, false, .boxi (.t 0)⟩,
  ⟨some 4, none, false, .mv (.c (.int .i64 0))⟩]

def f58r1 : List Abs.Op := [
  ⟨some 5, none, false, .ld true 11 (.t 2)⟩,
  ⟨some 6, none, false, .call false (.c (.fn i_rock_bedded_kind [] [])) [(.t 5), (.c (.int .i64 0))]⟩,
  ⟨some 7, none, false, .mv (.t 1)⟩,
  ⟨some 8, none, false, .idxS 1 (.t 6) (.t 7)⟩,
  ⟨some 9, none, false, .ld false 1 (.t 8)⟩,
  ⟨some 4, none, false, .mv (.t 9)⟩]

def a_rock_bedded_hold : Ann := ⟨[(1, [4]), (0, [1, 2])], [], [], [], [], [], [], [], [], [], []⟩
def f_rock_bedded_hold : Abs.Fn := ⟨2, [.t 4],
  (.seq (.reg [1, 2] f58r0) (.seq (.reg [4] f58r1) .ret))⟩

@[simp] theorem e58r0 : type_of% f58r0.eq_1 := by_rfl f58r0.eq_1
@[simp] theorem e58r1 : type_of% f58r1.eq_1 := by_rfl f58r1.eq_1
theorem e_rock_bedded_hold : type_of% f_rock_bedded_hold.eq_1 := by_rfl f_rock_bedded_hold.eq_1
theorem ok_rock_bedded_hold : fnC Try.prog a_rock_bedded_hold Try.f58 = some f_rock_bedded_hold := by kernel_rfl

/-! 59 (fumarole/rock.bedded).warm -/
def f59r0 : List Abs.Op := [
  ⟨some 2, none, false, .boxi (.t 0)⟩,
  ⟨some 4, none, false, .mv (.c (.int .i64 0))⟩]

def f59r1 : List Abs.Op := [
  ⟨some 5, none, false, .ld true 11 (.t 2)⟩,
  ⟨some 6, none, false, .call false (.c (.fn i_rock_bedded_kind [] [])) [(.t 5), (.c (.int .i64 2))]⟩,
  ⟨some 7, none, false, .mv (.t 1)⟩,
  ⟨some 8, none, false, .idxS 1 (.t 6) (.t 7)⟩,
  ⟨some 9, none, false, .ld false 1 (.t 8)⟩,
  ⟨some 4, none, false, .mv (.t 9)⟩]

def a_rock_bedded_warm : Ann := ⟨[(1, [4]), (0, [1, 2])], [], [], [], [], [], [], [], [], [], []⟩
def f_rock_bedded_warm : Abs.Fn := ⟨2, [.t 4],
  (.seq (.reg [1, 2] f59r0) (.seq (.reg [4] f59r1) .ret))⟩

@[simp] theorem e59r0 : type_of% f59r0.eq_1 := by_rfl f59r0.eq_1
@[simp] theorem e59r1 : type_of% f59r1.eq_1 := by_rfl f59r1.eq_1
theorem e_rock_bedded_warm : type_of% f_rock_bedded_warm.eq_1 := by_rfl f_rock_bedded_warm.eq_1
theorem ok_rock_bedded_warm : fnC Try.prog a_rock_bedded_warm Try.f59 = some f_rock_bedded_warm := by kernel_rfl

/-! 60 slices.Clone[fumarole/rock.State,fumarole/rock.Block] -/
def f60r0 : List Abs.Op := [
  ⟨some 2, none, false, .nilb 3⟩]

def f60r1 : List Abs.Op := [
  ⟨some 3, none, false, .mv (.t 0)⟩,
  ⟨some 4, none, false, .isn false false (.t 3)⟩]

def f60r2 : List Abs.Op := [
  ⟨some 2, none, false, .nilb 3⟩]

def f60r3 : List Abs.Op := [
  ⟨some 5, none, false, .bsm 0 3 [] []⟩,
  ⟨some 6, none, false, .mv (.t 0)⟩,
  ⟨some 7, none, false, .app 3 24 (.t 5) (.t 6)⟩,
  ⟨some 2, none, false, .mv (.t 7)⟩]

def a_slices_Clone_rock_State_rock_Block : Ann := ⟨[(3, [2]), (2, [2]), (1, [0, 4]), (0, [0])], [], [], [2, 5], [], [], [], [], [], [], []⟩
def f_slices_Clone_rock_State_rock_Block : Abs.Fn := ⟨1, [.t 2],
  (.seq (.reg [0] f60r0) (.seq (.seq (.reg [0, 4] f60r1) (.ite (.t 4) (.seq (.reg [2] f60r2) .ret) .nop)) (.seq (.reg [2] f60r3) .ret)))⟩

@[simp] theorem e60r0 : type_of% f60r0.eq_1 := by_rfl f60r0.eq_1
@[simp] theorem e60r1 : type_of% f60r1.eq_1 := by_rfl f60r1.eq_1
@[simp] theorem e60r2 : type_of% f60r2.eq_1 := by_rfl f60r2.eq_1
@[simp] theorem e60r3 : type_of% f60r3.eq_1 := by_rfl f60r3.eq_1
theorem e_slices_Clone_rock_State_rock_Block : type_of% f_slices_Clone_rock_State_rock_Block.eq_1 := by_rfl f_slices_Clone_rock_State_rock_Block.eq_1
theorem ok_slices_Clone_rock_State_rock_Block : fnC Try.prog a_slices_Clone_rock_State_rock_Block Try.f60 = some f_slices_Clone_rock_State_rock_Block := by kernel_rfl

/-! 61 (fumarole/rock.bedded).flows -/
def f61r0 : List Abs.Op := [
  ⟨some 2, none, false, .boxi (.t 0)⟩,
  ⟨some 3, none, false, .boxi (.t 1)⟩,
  ⟨some 4, none, false, .mv (.c .undef)⟩]

def f61r1 : List Abs.Op := [
  ⟨some 11, none, false, .mp (.make) []⟩,
  ⟨some 5, none, false, .alc [] [.undef]⟩,
  ⟨none, none, false, .st [] 1 (.t 5) (.t 11)⟩]

def f61r2 : List Abs.Op := [
  ⟨some 12, none, false, .ld true 11 (.t 2)⟩,
  ⟨some 13, none, false, .ld false 1 (.t 3)⟩,
  ⟨some 14, none, false, .call false (.c (.fn i_rock_bedded_pressures [] [])) [(.t 12), (.t 13)]⟩,
  ⟨some 6, none, false, .alc [] [.nils]⟩,
  ⟨none, none, false, .st [] 1 (.t 6) (.t 14)⟩]

def f61r3 : List Abs.Op := [
  ⟨some 15, none, false, .fadr 0 (.t 2)⟩,
  ⟨some 16, none, false, .ld true 9 (.t 15)⟩,
  ⟨some 17, none, false, .call false (.c (.fn i_rock_Bed_links [] [])) [(.t 16)]⟩]

def f61r4 : List Abs.Op := [
  ⟨some 7, none, false, .alcv [] [(.int .i64 0), (.int .i64 0)]⟩,
  ⟨none, none, false, .stv 7 [] 2 7 (.t 18)⟩]

def f61r5 : List Abs.Op := [
  ⟨some 19, none, true, .ld false 1 (.t 6)⟩,
  ⟨some 20, none, true, .fadr 0 (.t 7)⟩,
  ⟨some 21, none, true, .ldv 7 false 1 20⟩,
  ⟨some 22, none, true, .idxS 1 (.t 19) (.t 21)⟩,
  ⟨some 23, none, true, .ld false 1 (.t 22)⟩,
  ⟨some 24, none, true, .ld true 11 (.t 2)⟩,
  ⟨some 25, none, true, .fadr 0 (.t 7)⟩,
  ⟨some 26, none, true, .ldv 7 false 1 25⟩,
  ⟨some 27, none, true, .call false (.c (.fn i_rock_bedded_weight [] [])) [(.t 24), (.t 26)]⟩,
  ⟨some 28, none, true, .bin .sub (.t 23) (.t 27)⟩,
  ⟨some 29, none, true, .ld false 1 (.t 6)⟩,
  ⟨some 30, none, true, .fadr 1 (.t 7)⟩,
  ⟨some 31, none, true, .ldv 7 false 1 30⟩,
  ⟨some 32, none, true, .idxS 1 (.t 29) (.t 31)⟩,
  ⟨some 33, none, true, .ld false 1 (.t 32)⟩,
  ⟨some 34, none, true, .bin .sub (.t 28) (.t 33)⟩,
  ⟨some 35, none, true, .ld true 11 (.t 2)⟩,
  ⟨some 36, none, true, .fadr 1 (.t 7)⟩,
  ⟨some 37, none, true, .ldv 7 false 1 36⟩,
  ⟨some 38, none, true, .call false (.c (.fn i_rock_bedded_weight [] [])) [(.t 35), (.t 37)]⟩,
  ⟨some 39, none, false, .bin .add (.t 34) (.t 38)⟩,
  ⟨some 8, none, false, .mv (.t 39)⟩]

def f61r6 : List Abs.Op := [
  ⟨some 40, none, false, .mv (.t 8)⟩,
  ⟨some 41, none, false, .bin .lss (.t 40) (.c (.int .i64 0))⟩]

def f61r7 : List Abs.Op := [
  ⟨some 42, none, false, .fadr 1 (.t 7)⟩,
  ⟨some 43, none, false, .ldv 7 false 1 42⟩,
  ⟨some 44, none, false, .fadr 0 (.t 7)⟩,
  ⟨some 45, none, false, .ldv 7 false 1 44⟩,
  ⟨some 46, none, false, .bld [(.int .i64 0), (.int .i64 0)] [(0, 1, (.t 43)), (1, 1, (.t 45))]⟩,
  ⟨some 47, none, false, .mv (.t 8)⟩,
  ⟨some 48, none, false, .un .neg (.t 47)⟩,
  ⟨none, none, false, .stv 7 [] 2 7 (.t 46)⟩,
  ⟨some 8, none, false, .mv (.t 48)⟩]

def f61r8 : List Abs.Op := [
  ⟨some 49, none, true, .ld true 11 (.t 2)⟩,
  ⟨some 50, none, true, .fadr 0 (.t 7)⟩,
  ⟨some 51, none, true, .ldv 7 false 1 50⟩,
  ⟨some 52, none, true, .call false (.c (.fn i_rock_bedded_open [] [])) [(.t 49), (.t 51)]⟩,
  ⟨some 53, none, true, .ld true 11 (.t 2)⟩,
  ⟨some 54, none, true, .fadr 1 (.t 7)⟩,
  ⟨some 55, none, true, .ldv 7 false 1 54⟩,
  ⟨some 56, none, false, .call false (.c (.fn i_rock_bedded_open [] [])) [(.t 53), (.t 55)]⟩,
  ⟨some 57, none, false, .mn (.t 52) (.t 56)⟩,
  ⟨some 9, none, false, .mv (.t 57)⟩]

def f61r9 : List Abs.Op := [
  ⟨some 58, none, false, .mv (.t 9)⟩,
  ⟨some 59, none, false, .mv (.t 8)⟩,
  ⟨some 60, none, false, .bin .mul (.t 58) (.t 59)⟩,
  ⟨some 61, none, false, .bin .quo (.t 60) (.c (.int .i64 1000))⟩,
  ⟨some 62, none, false, .ld false 1 (.t 3)⟩,
  ⟨some 63, none, false, .fadr 0 (.t 7)⟩,
  ⟨some 64, none, false, .ldv 7 false 1 63⟩,
  ⟨some 65, none, false, .idxS 3 (.t 62) (.t 64)⟩,
  ⟨some 66, none, false, .fadr 0 (.t 65)⟩,
  ⟨some 67, none, false, .ld false 1 (.t 66)⟩,
  ⟨some 68, none, false, .bin .quo (.t 67) (.c (.int .i64 8))⟩,
  ⟨some 69, none, false, .mn (.t 61) (.t 68)⟩,
  ⟨some 10, none, false, .mv (.t 69)⟩]

def f61r10 : List Abs.Op := [
  ⟨some 70, none, false, .mv (.t 10)⟩,
  ⟨some 71, none, false, .bin .gtr (.t 70) (.c (.int .i64 0))⟩]

def f61r11 : List Abs.Op := [
  ⟨some 72, none, true, .ld false 1 (.t 5)⟩,
  ⟨some 73, none, true, .ldv 7 true 2 7⟩,
  ⟨some 74, none, true, .ld false 1 (.t 3)⟩,
  ⟨some 75, none, true, .fadr 0 (.t 7)⟩,
  ⟨some 76, none, true, .ldv 7 false 1 75⟩,
  ⟨some 77, none, true, .idxS 3 (.t 74) (.t 76)⟩,
  ⟨some 78, none, true, .ld true 3 (.t 77)⟩,
  ⟨some 79, none, true, .mv (.t 10)⟩,
  ⟨some 80, none, true, .call false (.c (.fn i_rock_Block_out [] [])) [(.t 78), (.t 79)]⟩,
  ⟨none, none, false, .mp (.put (some (true, [some .i64, some .i64]))) [(.t 72), (.t 73), (.t 80)]⟩]

def f_rock_bedded_flows_a12 : Abs.Cmd :=
  (.reg [2, 3, 5, 6, 7] f61r4)

def f_rock_bedded_flows_b12 : Abs.Cmd :=
  (.blk 1 (.seq (.reg [2, 3, 5, 7, 8] f61r5) (.seq (.seq (.reg [2, 3, 5, 7, 8, 41] f61r6) (.ite (.t 41) (.reg [2, 3, 5, 7, 8] f61r7) .nop)) (.seq (.reg [3, 5, 7, 8, 9] f61r8) (.seq (.reg [3, 5, 7, 10] f61r9) (.seq (.reg [3, 5, 7, 10, 71] f61r10) (.ite (.t 71) (.reg [] f61r11) .nop)))))))

def f61r13 : List Abs.Op := [
  ⟨some 81, none, false, .ld false 1 (.t 5)⟩,
  ⟨some 4, none, false, .mv (.t 81)⟩]

def a_rock_bedded_flows : Ann := ⟨[(12, [4]), (11, []), (10, [3, 5, 7, 10, 71]), (9, [3, 5, 7, 10]), (8, [3, 5, 7, 8, 9]), (7, [2, 3, 5, 7, 8]), (6, [2, 3, 5, 7, 8, 41]), (5, [2, 3, 5, 7, 8]), (4, [2, 3, 5, 6, 7]), (3, [2, 3, 4, 5, 6, 17]), (2, [2, 3, 4, 5, 6]), (1, [2, 3, 4, 5]), (0, [2, 3, 4])], [(0, [2, 3, 4, 5, 6])], [], [5, 6, 7], [7], [], [], [], [], [], []⟩
def f_rock_bedded_flows : Abs.Fn := ⟨2, [.t 4],
  (.seq (.reg [2, 3, 4] f61r0) (.seq (.reg [2, 3, 4, 5] f61r1) (.seq (.reg [2, 3, 4, 5, 6] f61r2) (.seq (.seq (.reg [2, 3, 4, 5, 6, 17] f61r3) (.blk 0 (.rngf [2, 3, 4, 5, 6] (.t 17) [18] f_rock_bedded_flows_a12 f_rock_bedded_flows_b12))) (.seq (.reg [4] f61r13) .ret)))))⟩

@[simp] theorem e61r0 : type_of% f61r0.eq_1 := by_rfl f61r0.eq_1
@[simp] theorem e61r1 : type_of% f61r1.eq_1 := by_rfl f61r1.eq_1
@[simp] theorem e61r2 : type_of% f61r2.eq_1 := by_rfl f61r2.eq_1
@[simp] theorem e61r3 : type_of% f61r3.eq_1 := by_rfl f61r3.eq_1
@[simp] theorem e61r4 : type_of% f61r4.eq_1 := by_rfl f61r4.eq_1
@[simp] theorem e61r5 : type_of% f61r5.eq_1 := by_rfl f61r5.eq_1
@[simp] theorem e61r6 : type_of% f61r6.eq_1 := by_rfl f61r6.eq_1
@[simp] theorem e61r7 : type_of% f61r7.eq_1 := by_rfl f61r7.eq_1
@[simp] theorem e61r8 : type_of% f61r8.eq_1 := by_rfl f61r8.eq_1
@[simp] theorem e61r9 : type_of% f61r9.eq_1 := by_rfl f61r9.eq_1
@[simp] theorem e61r10 : type_of% f61r10.eq_1 := by_rfl f61r10.eq_1
@[simp] theorem e61r11 : type_of% f61r11.eq_1 := by_rfl f61r11.eq_1
@[simp] theorem e61r13 : type_of% f61r13.eq_1 := by_rfl f61r13.eq_1
theorem e_rock_bedded_flows_a12 : type_of% f_rock_bedded_flows_a12.eq_1 := by_rfl f_rock_bedded_flows_a12.eq_1
theorem e_rock_bedded_flows_b12 : type_of% f_rock_bedded_flows_b12.eq_1 := by_rfl f_rock_bedded_flows_b12.eq_1
theorem e_rock_bedded_flows : type_of% f_rock_bedded_flows.eq_1 := by_rfl f_rock_bedded_flows.eq_1
theorem ok_rock_bedded_flows : fnC Try.prog a_rock_bedded_flows Try.f61 = some f_rock_bedded_flows := by kernel_rfl

/-! 62 (*fumarole/rock.Block).move -/
def f62r0 : List Abs.Op := [
  ⟨some 4, none, false, .boxi (.t 1)⟩]

def f62r1 : List Abs.Op := [
  ⟨some 6, none, true, .mv (.t 0)⟩,
  ⟨some 7, none, true, .nck (.t 6)⟩,
  ⟨some 8, none, true, .fadr 0 (.t 7)⟩,
  ⟨some 9, none, true, .ld false 1 (.t 8)⟩,
  ⟨some 10, none, true, .mv (.t 2)⟩,
  ⟨some 11, none, true, .fadr 0 (.t 4)⟩,
  ⟨some 12, none, true, .ld false 1 (.t 11)⟩,
  ⟨some 13, none, true, .bin .mul (.t 10) (.t 12)⟩,
  ⟨some 14, none, false, .bin .add (.t 9) (.t 13)⟩,
  ⟨some 15, none, false, .nck (.t 6)⟩,
  ⟨some 16, none, false, .fadr 0 (.t 15)⟩,
  ⟨none, none, false, .st [] 1 (.t 16) (.t 14)⟩]

def f62r2 : List Abs.Op := [
  ⟨some 17, none, true, .mv (.t 0)⟩,
  ⟨some 18, none, true, .nck (.t 17)⟩,
  ⟨some 19, none, true, .fadr 1 (.t 18)⟩,
  ⟨some 20, none, true, .ld false 1 (.t 19)⟩,
  ⟨some 21, none, true, .mv (.t 2)⟩,
  ⟨some 22, none, true, .fadr 1 (.t 4)⟩,
  ⟨some 23, none, true, .ld false 1 (.t 22)⟩,
  ⟨some 24, none, true, .bin .mul (.t 21) (.t 23)⟩,
  ⟨some 25, none, false, .bin .add (.t 20) (.t 24)⟩,
  ⟨some 26, none, false, .nck (.t 17)⟩,
  ⟨some 27, none, false, .fadr 1 (.t 26)⟩,
  ⟨none, none, false, .st [] 1 (.t 27) (.t 25)⟩]

def f62r3 : List Abs.Op := [
  ⟨some 28, none, true, .mv (.t 0)⟩,
  ⟨some 29, none, true, .nck (.t 28)⟩,
  ⟨some 30, none, true, .fadr 2 (.t 29)⟩,
  ⟨some 31, none, true, .ld false 1 (.t 30)⟩,
  ⟨some 32, none, true, .mv (.t 2)⟩,
  ⟨some 33, none, true, .fadr 2 (.t 4)⟩,
  ⟨some 34, none, true, .ld false 1 (.t 33)⟩,
  ⟨some 35, none, true, .bin .mul (.t 32) (.t 34)⟩,
  ⟨some 36, none, false, .bin .add (.t 31) (.t 35)⟩,
  ⟨some 37, none, false, .nck (.t 28)⟩,
  ⟨some 38, none, false, .fadr 2 (.t 37)⟩,
  ⟨none, none, false, .st [] 1 (.t 38) (.t 36)⟩]

def a_rock_Block_move : Ann := ⟨[(3, []), (2, [0, 2, 4]), (1, [0, 2, 4]), (0, [0, 2, 4])], [], [], [0], [], [], [], [], [], [], []⟩
def f_rock_Block_move : Abs.Fn := ⟨3, [],
  (.seq (.reg [0, 2, 4] f62r0) (.seq (.reg [0, 2, 4] f62r1) (.seq (.reg [0, 2, 4] f62r2) (.reg [] f62r3))))⟩

@[simp] theorem e62r0 : type_of% f62r0.eq_1 := by_rfl f62r0.eq_1
@[simp] theorem e62r1 : type_of% f62r1.eq_1 := by_rfl f62r1.eq_1
@[simp] theorem e62r2 : type_of% f62r2.eq_1 := by_rfl f62r2.eq_1
@[simp] theorem e62r3 : type_of% f62r3.eq_1 := by_rfl f62r3.eq_1
theorem e_rock_Block_move : type_of% f_rock_Block_move.eq_1 := by_rfl f_rock_Block_move.eq_1
theorem ok_rock_Block_move : fnC Try.prog a_rock_Block_move Try.f62 = some f_rock_Block_move := by kernel_rfl

/-! 63 (fumarole/rock.Bore).given -/
def f63r0 : List Abs.Op := [
  ⟨some 2, none, false, .boxi (.t 0)⟩,
  ⟨some 4, none, false, .alcv [] [(.int .i64 0), (.int .i64 0), (.int .i64 0)]⟩]

def f63r1 : List Abs.Op := [
  ⟨some 5, none, false, .mv (.t 1)⟩,
  ⟨some 6, none, false, .un .neg (.t 5)⟩,
  ⟨some 7, none, false, .mv (.t 1)⟩,
  ⟨some 8, none, false, .un .neg (.t 7)⟩,
  ⟨some 9, none, false, .fadr 1 (.t 2)⟩,
  ⟨some 10, none, false, .ld false 1 (.t 9)⟩,
  ⟨some 11, none, false, .bin .mul (.t 8) (.t 10)⟩,
  ⟨some 12, none, false, .mv (.t 1)⟩,
  ⟨some 13, none, false, .un .neg (.t 12)⟩,
  ⟨some 14, none, false, .fadr 2 (.t 2)⟩,
  ⟨some 15, none, false, .ld false 1 (.t 14)⟩,
  ⟨some 16, none, false, .bin .mul (.t 13) (.t 15)⟩,
  ⟨some 17, none, false, .bld [(.int .i64 0), (.int .i64 0), (.int .i64 0)] [(0, 1, (.t 6)), (1, 1, (.t 11)), (2, 1, (.t 16))]⟩,
  ⟨none, none, false, .stv 4 [] 3 4 (.t 17)⟩]

def a_rock_Bore_given : Ann := ⟨[(1, [4]), (0, [1, 2, 4])], [], [], [4], [4], [], [], [], [], [], []⟩
def f_rock_Bore_given : Abs.Fn := ⟨2, [.v 4 true 3],
  (.seq (.reg [1, 2, 4] f63r0) (.seq (.reg [4] f63r1) .ret))⟩

@[simp] theorem e63r0 : type_of% f63r0.eq_1 := by_rfl f63r0.eq_1
@[simp] theorem e63r1 : type_of% f63r1.eq_1 := by_rfl f63r1.eq_1
theorem e_rock_Bore_given : type_of% f_rock_Bore_given.eq_1 := by_rfl f_rock_Bore_given.eq_1
theorem ok_rock_Bore_given : fnC Try.prog a_rock_Bore_given Try.f63 = some f_rock_Bore_given := by kernel_rfl

/-! 64 (fumarole/rock.Block).out -/
def f64r0 : List Abs.Op := [
  ⟨some 2, none, false, .boxi (.t 0)⟩,
  ⟨some 4, none, false, .alcv [] [(.int .i64 0), (.int .i64 0), (.int .i64 0)]⟩]

def f64r1 : List Abs.Op := [
  ⟨some 5, none, true, .mv (.t 1)⟩,
  ⟨some 6, none, true, .fadr 1 (.t 2)⟩,
  ⟨some 7, none, true, .ld false 1 (.t 6)⟩,
  ⟨some 8, none, true, .mv (.t 1)⟩,
  ⟨some 9, none, true, .bin .mul (.t 7) (.t 8)⟩,
  ⟨some 10, none, true, .fadr 0 (.t 2)⟩,
  ⟨some 11, none, true, .ld false 1 (.t 10)⟩,
  ⟨some 12, none, true, .bin .quo (.t 9) (.t 11)⟩,
  ⟨some 13, none, true, .fadr 2 (.t 2)⟩,
  ⟨some 14, none, true, .ld false 1 (.t 13)⟩,
  ⟨some 15, none, true, .mv (.t 1)⟩,
  ⟨some 16, none, true, .bin .mul (.t 14) (.t 15)⟩,
  ⟨some 17, none, true, .fadr 0 (.t 2)⟩,
  ⟨some 18, none, true, .ld false 1 (.t 17)⟩,
  ⟨some 19, none, true, .bin .quo (.t 16) (.t 18)⟩,
  ⟨some 20, none, false, .bld [(.int .i64 0), (.int .i64 0), (.int .i64 0)] [(0, 1, (.t 5)), (1, 1, (.t 12)), (2, 1, (.t 19))]⟩,
  ⟨none, none, false, .stv 4 [] 3 4 (.t 20)⟩]

def a_rock_Block_out : Ann := ⟨[(1, [4]), (0, [1, 2, 4])], [], [], [4], [4], [], [], [], [], [], []⟩
def f_rock_Block_out : Abs.Fn := ⟨2, [.v 4 true 3],
  (.seq (.reg [1, 2, 4] f64r0) (.seq (.reg [4] f64r1) .ret))⟩

@[simp] theorem e64r0 : type_of% f64r0.eq_1 := by_rfl f64r0.eq_1
@[simp] theorem e64r1 : type_of% f64r1.eq_1 := by_rfl f64r1.eq_1
theorem e_rock_Block_out : type_of% f_rock_Block_out.eq_1 := by_rfl f_rock_Block_out.eq_1
theorem ok_rock_Block_out : fnC Try.prog a_rock_Block_out Try.f64 = some f_rock_Block_out := by kernel_rfl

/-! 65 (fumarole/rock.bedded).fed -/
def f65r0 : List Abs.Op := [
  ⟨some 2, none, false, .boxi (.t 0)⟩,
  ⟨some 4, none, false, .alcv [] [(.int .i64 0), (.int .i64 0), (.int .i64 0)]⟩]

def f65r1 : List Abs.Op := [
  ⟨some 5, none, true, .ld true 11 (.t 2)⟩,
  ⟨some 6, none, true, .mv (.t 1)⟩,
  ⟨some 7, none, true, .call false (.c (.fn i_rock_bedded_feed [] [])) [(.t 5), (.t 6)]⟩,
  ⟨some 8, none, true, .ld true 11 (.t 2)⟩,
  ⟨some 9, none, true, .mv (.t 1)⟩,
  ⟨some 10, none, true, .call false (.c (.fn i_rock_bedded_feed [] [])) [(.t 8), (.t 9)]⟩,
  ⟨some 11, none, true, .fadr 0 (.t 2)⟩,
  ⟨some 12, none, true, .fadr 7 (.t 11)⟩,
  ⟨some 13, none, true, .ld false 1 (.t 12)⟩,
  ⟨some 14, none, false, .bin .mul (.t 10) (.t 13)⟩,
  ⟨some 15, none, false, .bld [(.int .i64 0), (.int .i64 0), (.int .i64 0)] [(0, 1, (.t 7)), (1, 1, (.t 14))]⟩,
  ⟨none, none, false, .stv 4 [] 3 4 (.t 15)⟩]

def a_rock_bedded_fed : Ann := ⟨[(1, [4]), (0, [1, 2, 4])], [], [], [4], [4], [], [], [], [], [], []⟩
def f_rock_bedded_fed : Abs.Fn := ⟨2, [.v 4 true 3],
  (.seq (.reg [1, 2, 4] f65r0) (.seq (.reg [4] f65r1) .ret))⟩

@[simp] theorem e65r0 : type_of% f65r0.eq_1 := by_rfl f65r0.eq_1
@[simp] theorem e65r1 : type_of% f65r1.eq_1 := by_rfl f65r1.eq_1
theorem e_rock_bedded_fed : type_of% f_rock_bedded_fed.eq_1 := by_rfl f_rock_bedded_fed.eq_1
theorem ok_rock_bedded_fed : fnC Try.prog a_rock_bedded_fed Try.f65 = some f_rock_bedded_fed := by kernel_rfl

/-! 66 slices.ContainsFunc[[]fumarole/rock.Block,fumarole/rock.Block] -/
def f66r0 : List Abs.Op := [
  ⟨some 4, none, false, .mv (.c (.bool false))⟩]

def f66r1 : List Abs.Op := [
  ⟨some 5, none, false, .mv (.t 0)⟩,
  ⟨some 6, none, false, .mv (.t 1)⟩,
  ⟨some 7, none, false, .call false (.c (.fn i_slices_IndexFunc_rock_Block [] [])) [(.t 5), (.t 6)]⟩,
  ⟨some 8, none, false, .bin .geq (.t 7) (.c (.int .i64 0))⟩,
  ⟨some 4, none, false, .mv (.t 8)⟩]

def a_slices_ContainsFunc_rock_Block : Ann := ⟨[(1, [4]), (0, [0, 1])], [], [], [], [], [], [], [], [], [], []⟩
def f_slices_ContainsFunc_rock_Block : Abs.Fn := ⟨2, [.t 4],
  (.seq (.reg [0, 1] f66r0) (.seq (.reg [4] f66r1) .ret))⟩

@[simp] theorem e66r0 : type_of% f66r0.eq_1 := by_rfl f66r0.eq_1
@[simp] theorem e66r1 : type_of% f66r1.eq_1 := by_rfl f66r1.eq_1
theorem e_slices_ContainsFunc_rock_Block : type_of% f_slices_ContainsFunc_rock_Block.eq_1 := by_rfl f_slices_ContainsFunc_rock_Block.eq_1
theorem ok_slices_ContainsFunc_rock_Block : fnC Try.prog a_slices_ContainsFunc_rock_Block Try.f66 = some f_slices_ContainsFunc_rock_Block := by kernel_rfl

/-! 67 fumarole/rock.all[fumarole/rock.Block]$1 -/
def f67r0 : List Abs.Op := [
  ⟨some 2, none, false, .boxi (.t 0)⟩,
  ⟨some 3, none, false, .mv (.c (.bool false))⟩]

def f67r1 : List Abs.Op := [
  ⟨some 4, none, false, .ld false 1 (.t 1)⟩,
  ⟨some 5, none, false, .ld true 3 (.t 2)⟩,
  ⟨some 6, none, false, .call false (.t 4) [(.t 5)]⟩,
  ⟨some 7, none, false, .un .not (.t 6)⟩,
  ⟨some 3, none, false, .mv (.t 7)⟩]

def a_rock_all_rock_Block_1 : Ann := ⟨[(1, [3]), (0, [1, 2])], [], [], [], [], [], [], [], [], [], []⟩
def f_rock_all_rock_Block_1 : Abs.Fn := ⟨2, [.t 3],
  (.seq (.reg [1, 2] f67r0) (.seq (.reg [3] f67r1) .ret))⟩

@[simp] theorem e67r0 : type_of% f67r0.eq_1 := by_rfl f67r0.eq_1
@[simp] theorem e67r1 : type_of% f67r1.eq_1 := by_rfl f67r1.eq_1
theorem e_rock_all_rock_Block_1 : type_of% f_rock_all_rock_Block_1.eq_1 := by_rfl f_rock_all_rock_Block_1.eq_1
theorem ok_rock_all_rock_Block_1 : fnC Try.prog a_rock_all_rock_Block_1 Try.f67 = some f_rock_all_rock_Block_1 := by kernel_rfl

/-! 68 (fumarole/rock.bedded).weight -/
def f68r0 : List Abs.Op := [
  ⟨some 2, none, false, .boxi (.t 0)⟩,
  ⟨some 4, none, false, .mv (.c (.int .i64 0))⟩]

def f68r1 : List Abs.Op := [
  ⟨some 5, none, true, .mv (.t 1)⟩,
  ⟨some 6, none, true, .fadr 0 (.t 2)⟩,
  ⟨some 7, none, true, .fadr 0 (.t 6)⟩,
  ⟨some 8, none, true, .fadr 0 (.t 7)⟩,
  ⟨some 9, none, true, .ld false 1 (.t 8)⟩,
  ⟨some 10, none, true, .fadr 0 (.t 2)⟩,
  ⟨some 11, none, true, .fadr 0 (.t 10)⟩,
  ⟨some 12, none, true, .fadr 1 (.t 11)⟩,
  ⟨some 13, none, true, .ld false 1 (.t 12)⟩,
  ⟨some 14, none, true, .bin .mul (.t 9) (.t 13)⟩,
  ⟨some 15, none, true, .bin .quo (.t 5) (.t 14)⟩,
  ⟨some 16, none, true, .fadr 0 (.t 2)⟩,
  ⟨some 17, none, true, .fadr 6 (.t 16)⟩,
  ⟨some 18, none, true, .ld false 1 (.t 17)⟩,
  ⟨some 19, none, false, .bin .mul (.t 15) (.t 18)⟩,
  ⟨some 4, none, false, .mv (.t 19)⟩]

def a_rock_bedded_weight : Ann := ⟨[(1, [4]), (0, [1, 2])], [], [], [], [], [], [], [], [], [], []⟩
def f_rock_bedded_weight : Abs.Fn := ⟨2, [.t 4],
  (.seq (.reg [1, 2] f68r0) (.seq (.reg [4] f68r1) .ret))⟩

@[simp] theorem e68r0 : type_of% f68r0.eq_1 := by_rfl f68r0.eq_1
@[simp] theorem e68r1 : type_of% f68r1.eq_1 := by_rfl f68r1.eq_1
theorem e_rock_bedded_weight : type_of% f_rock_bedded_weight.eq_1 := by_rfl f_rock_bedded_weight.eq_1
theorem ok_rock_bedded_weight : fnC Try.prog a_rock_bedded_weight Try.f68 = some f_rock_bedded_weight := by kernel_rfl

/-! 69 fumarole/rock.down -/
def f69r0 : List Abs.Op := [
  ⟨some 4, none, false, .mv (.c (.int .i64 0))⟩]

def f69r1 : List Abs.Op := [
  ⟨some 6, none, false, .mv (.t 0)⟩,
  ⟨some 7, none, false, .mv (.t 1)⟩,
  ⟨some 8, none, false, .bin .quo (.t 6) (.t 7)⟩,
  ⟨some 5, none, false, .mv (.t 8)⟩]

def f69r2 : List Abs.Op := [
  ⟨some 9, none, false, .mv (.t 5)⟩,
  ⟨some 10, none, false, .mv (.t 1)⟩,
  ⟨some 11, none, false, .bin .mul (.t 9) (.t 10)⟩,
  ⟨some 12, none, false, .mv (.t 0)⟩,
  ⟨some 13, none, false, .bin .gtr (.t 11) (.t 12)⟩]

def f69r3 : List Abs.Op := [
  ⟨some 14, none, false, .mv (.t 5)⟩,
  ⟨some 15, none, false, .bin .sub (.t 14) (.c (.int .i64 1))⟩,
  ⟨some 5, none, false, .mv (.t 15)⟩]

def f69r4 : List Abs.Op := [
  ⟨some 16, none, false, .mv (.t 5)⟩,
  ⟨some 4, none, false, .mv (.t 16)⟩]

def a_rock_down : Ann := ⟨[(4, [4]), (3, [5]), (2, [5, 13]), (1, [0, 1, 5]), (0, [0, 1])], [], [], [], [], [], [], [], [], [], []⟩
def f_rock_down : Abs.Fn := ⟨2, [.t 4],
  (.seq (.reg [0, 1] f69r0) (.seq (.reg [0, 1, 5] f69r1) (.seq (.seq (.reg [5, 13] f69r2) (.ite (.t 13) (.reg [5] f69r3) .nop)) (.seq (.reg [4] f69r4) .ret))))⟩

@[simp] theorem e69r0 : type_of% f69r0.eq_1 := by_rfl f69r0.eq_1
@[simp] theorem e69r1 : type_of% f69r1.eq_1 := by_rfl f69r1.eq_1
@[simp] theorem e69r2 : type_of% f69r2.eq_1 := by_rfl f69r2.eq_1
@[simp] theorem e69r3 : type_of% f69r3.eq_1 := by_rfl f69r3.eq_1
@[simp] theorem e69r4 : type_of% f69r4.eq_1 := by_rfl f69r4.eq_1
theorem e_rock_down : type_of% f_rock_down.eq_1 := by_rfl f_rock_down.eq_1
theorem ok_rock_down : fnC Try.prog a_rock_down Try.f69 = some f_rock_down := by kernel_rfl

/-! 73 slices.IndexFunc[[]fumarole/trial.Seen,fumarole/trial.Seen] -/
def f73r0 : List Abs.Op := [
  ⟨some 4, none, false, .mv (.c (.int .i64 0))⟩]

def f73r1 : List Abs.Op := [
  ⟨some 6, none, false, .mv (.t 0)⟩,
  ⟨some 7, none, false, .lenS (.t 6)⟩,
  ⟨some 8, none, false, .mv (.c (.int .i64 0))⟩]

def f73r2 : List Abs.Op := [
  ⟨some 9, none, false, .bin .lss (.t 8) (.t 7)⟩]

def f73r3 : List Abs.Op := [
  ⟨some 10, none, false, .mv (.t 8)⟩,
  ⟨some 5, none, false, .mv (.t 10)⟩]

def f73r4 : List Abs.Op := [
  ⟨some 11, none, false, .mv (.t 1)⟩,
  ⟨some 12, none, false, .mv (.t 0)⟩,
  ⟨some 13, none, false, .mv (.t 5)⟩,
  ⟨some 14, none, false, .idxS 4 (.t 12) (.t 13)⟩,
  ⟨some 15, none, false, .ld true 4 (.t 14)⟩,
  ⟨some 16, none, false, .call false (.t 11) [(.t 15)]⟩]

def f73r5 : List Abs.Op := [
  ⟨some 17, none, false, .mv (.t 5)⟩,
  ⟨some 4, none, false, .mv (.t 17)⟩]

def f73r6 : List Abs.Op := [
  ⟨some 18, none, false, .bin .add (.t 8) (.c (.int .i64 1))⟩,
  ⟨some 8, none, false, .mv (.t 18)⟩]

def f_slices_IndexFunc_trial_Seen_l7 : Abs.Cmd :=
  (.seq (.reg [0, 1, 7, 8, 9] f73r2) (.seq (.ite (.t 9) .nop (.exit 0)) (.seq (.blk 1 (.seq (.reg [0, 1, 5, 7, 8] f73r3) (.seq (.reg [0, 1, 5, 7, 8, 16] f73r4) (.ite (.t 16) (.seq (.reg [4] f73r5) .ret) .nop)))) (.reg [0, 1, 7, 8] f73r6))))

def f73r8 : List Abs.Op := [
  ⟨some 4, none, false, .mv (.c (.int .i64 (-1)))⟩]

def a_slices_IndexFunc_trial_Seen : Ann := ⟨[(7, [4]), (6, [0, 1, 7, 8]), (5, [4]), (4, [0, 1, 5, 7, 8, 16]), (3, [0, 1, 5, 7, 8]), (2, [0, 1, 7, 8, 9]), (1, [0, 1, 7, 8]), (0, [0, 1])], [(0, [0, 1, 7, 8])], [], [], [], [], [], [], [], [], []⟩
def f_slices_IndexFunc_trial_Seen : Abs.Fn := ⟨2, [.t 4],
  (.seq (.reg [0, 1] f73r0) (.seq (.seq (.reg [0, 1, 7, 8] f73r1) (.blk 0 (.loop [0, 1, 7, 8] false f_slices_IndexFunc_trial_Seen_l7))) (.seq (.reg [4] f73r8) .ret)))⟩

@[simp] theorem e73r0 : type_of% f73r0.eq_1 := by_rfl f73r0.eq_1
@[simp] theorem e73r1 : type_of% f73r1.eq_1 := by_rfl f73r1.eq_1
@[simp] theorem e73r2 : type_of% f73r2.eq_1 := by_rfl f73r2.eq_1
@[simp] theorem e73r3 : type_of% f73r3.eq_1 := by_rfl f73r3.eq_1
@[simp] theorem e73r4 : type_of% f73r4.eq_1 := by_rfl f73r4.eq_1
@[simp] theorem e73r5 : type_of% f73r5.eq_1 := by_rfl f73r5.eq_1
@[simp] theorem e73r6 : type_of% f73r6.eq_1 := by_rfl f73r6.eq_1
@[simp] theorem e73r8 : type_of% f73r8.eq_1 := by_rfl f73r8.eq_1
theorem e_slices_IndexFunc_trial_Seen_l7 : type_of% f_slices_IndexFunc_trial_Seen_l7.eq_1 := by_rfl f_slices_IndexFunc_trial_Seen_l7.eq_1
theorem e_slices_IndexFunc_trial_Seen : type_of% f_slices_IndexFunc_trial_Seen.eq_1 := by_rfl f_slices_IndexFunc_trial_Seen.eq_1
theorem ok_slices_IndexFunc_trial_Seen : fnC Try.prog a_slices_IndexFunc_trial_Seen Try.f73 = some f_slices_IndexFunc_trial_Seen := by kernel_rfl

/-! 74 (fumarole/trial.parted).clash$1 -/
def f74r0 : List Abs.Op := [
  ⟨some 2, none, false, .boxi (.t 0)⟩,
  ⟨some 3, none, false, .mv (.c (.bool false))⟩]

def f74r1 : List Abs.Op := [
  ⟨some 4, none, true, .fadr 0 (.t 1)⟩,
  ⟨some 5, none, true, .ld true 3 (.t 4)⟩,
  ⟨some 6, none, true, .ld true 4 (.t 2)⟩,
  ⟨some 7, none, true, .call false (.c (.fn i_trial_Survey_apart [] [])) [(.t 5), (.t 6)]⟩,
  ⟨some 8, none, true, .mv (.t 7)⟩,
  ⟨some 9, some (8, true), true, .fadr 0 (.t 2)⟩,
  ⟨some 10, some (8, true), true, .ld false 1 (.t 9)⟩,
  ⟨some 11, some (8, true), true, .fadr 3 (.t 1)⟩,
  ⟨some 12, some (8, true), true, .idxA 10 1 (.t 11) (.t 10)⟩,
  ⟨some 13, some (8, true), true, .ld false 1 (.t 12)⟩,
  ⟨some 14, some (8, true), true, .fadr 1 (.t 2)⟩,
  ⟨some 15, some (8, true), true, .ld false 1 (.t 14)⟩,
  ⟨some 16, some (8, true), true, .fadr 3 (.t 1)⟩,
  ⟨some 17, some (8, true), true, .idxA 10 1 (.t 16) (.t 15)⟩,
  ⟨some 18, some (8, true), true, .ld false 1 (.t 17)⟩,
  ⟨some 19, some (8, true), false, .bin .eql (.t 13) (.t 18)⟩,
  ⟨some 20, none, false, .pick (.t 8) (.t 19) (.c (.bool false))⟩,
  ⟨some 3, none, false, .mv (.t 20)⟩]

def a_trial_parted_clash_1 : Ann := ⟨[(1, [3]), (0, [1, 2])], [], [], [], [], [], [], [], [], [], []⟩
def f_trial_parted_clash_1 : Abs.Fn := ⟨2, [.t 3],
  (.seq (.reg [1, 2] f74r0) (.seq (.reg [3] f74r1) .ret))⟩

@[simp] theorem e74r0 : type_of% f74r0.eq_1 := by_rfl f74r0.eq_1
@[simp] theorem e74r1 : type_of% f74r1.eq_1 := by_rfl f74r1.eq_1
theorem e_trial_parted_clash_1 : type_of% f_trial_parted_clash_1.eq_1 := by_rfl f_trial_parted_clash_1.eq_1
theorem ok_trial_parted_clash_1 : fnC Try.prog a_trial_parted_clash_1 Try.f74 = some f_trial_parted_clash_1 := by kernel_rfl

/-! 75 (fumarole/field.Field).shape -/
def f75r0 : List Abs.Op := [
  ⟨some 1, none, false, .boxi (.t 0)⟩,
  ⟨some 2, none, false, .mv (.c (.int .i64 0))⟩]

def f75r1 : List Abs.Op := [
  ⟨some 3, none, false, .ld true 4 (.t 1)⟩,
  ⟨some 4, none, false, .call false (.c (.fn i_field_Field_valid [] [])) [(.t 3)]⟩,
  ⟨some 5, none, false, .un .not (.t 4)⟩]

def f75r2 : List Abs.Op := [
  ⟨some 2, none, false, .mv (.c (.int .i64 1))⟩]

def f75r3 : List Abs.Op := [
  ⟨some 2, none, false, .mv (.c (.int .i64 0))⟩]

def a_field_Field_shape : Ann := ⟨[(3, [2]), (2, [2]), (1, [5]), (0, [1])], [], [], [], [], [], [], [], [], [], []⟩
def f_field_Field_shape : Abs.Fn := ⟨1, [.t 2],
  (.seq (.reg [1] f75r0) (.seq (.seq (.reg [5] f75r1) (.ite (.t 5) (.seq (.reg [2] f75r2) .ret) .nop)) (.seq (.reg [2] f75r3) .ret)))⟩

@[simp] theorem e75r0 : type_of% f75r0.eq_1 := by_rfl f75r0.eq_1
@[simp] theorem e75r1 : type_of% f75r1.eq_1 := by_rfl f75r1.eq_1
@[simp] theorem e75r2 : type_of% f75r2.eq_1 := by_rfl f75r2.eq_1
@[simp] theorem e75r3 : type_of% f75r3.eq_1 := by_rfl f75r3.eq_1
theorem e_field_Field_shape : type_of% f_field_Field_shape.eq_1 := by_rfl f_field_Field_shape.eq_1
theorem ok_field_Field_shape : fnC Try.prog a_field_Field_shape Try.f75 = some f_field_Field_shape := by kernel_rfl

/-! 76 (fumarole/steam.Table).valid -/
def f76r0 : List Abs.Op := [
  ⟨some 2, none, false, .mv (.c (.bool false))⟩]

def f76r1 : List Abs.Op := [
  ⟨some 6, none, false, .mv (.t 0)⟩,
  ⟨some 7, none, false, .lenS (.t 6)⟩,
  ⟨some 8, none, false, .call false (.c (.fn i_steam_within [] [])) [(.t 7), (.c (.int .i64 2)), (.c (.int .i64 20))]⟩,
  ⟨some 9, none, false, .un .not (.t 8)⟩,
  ⟨some 10, none, false, .mv (.t 9)⟩,
  ⟨some 11, some (10, false), false, .mv (.t 0)⟩,
  ⟨some 12, some (10, false), false, .call false (.c (.fn i_steam_all_steam_Row [] [])) [(.t 11), (.c (.fn i_steam_Row_alone [] []))]⟩,
  ⟨some 13, some (10, false), false, .un .not (.t 12)⟩,
  ⟨some 14, none, false, .pick (.t 10) (.c (.bool true)) (.t 13)⟩]

def f76r2 : List Abs.Op := [
  ⟨some 2, none, false, .mv (.c (.bool false))⟩]

def f76r3 : List Abs.Op := [
  ⟨some 15, none, false, .mv (.t 0)⟩,
  ⟨some 16, none, false, .slc 5 (.t 15) (some (.c (.int .i64 1))) none none⟩,
  ⟨some 17, none, false, .lenS (.t 16)⟩,
  ⟨some 18, none, false, .mv (.c (.int .i64 0))⟩]

def f76r4 : List Abs.Op := [
  ⟨some 19, none, false, .bin .lss (.t 18) (.t 17)⟩]

def f76r5 : List Abs.Op := [
  ⟨some 20, none, false, .mv (.t 18)⟩,
  ⟨some 21, none, false, .idxS 5 (.t 16) (.t 18)⟩,
  ⟨some 22, none, false, .ld true 5 (.t 21)⟩,
  ⟨some 4, none, false, .alcv [] [(.int .i64 0), (.int .i64 0), (.int .i64 0), (.int .i64 0), (.int .i64 0)]⟩,
  ⟨some 3, none, false, .mv (.t 20)⟩,
  ⟨none, none, false, .stv 4 [] 5 4 (.t 22)⟩]

def f76r6 : List Abs.Op := [
  ⟨some 23, none, false, .mv (.t 0)⟩,
  ⟨some 24, none, false, .mv (.t 3)⟩,
  ⟨some 25, none, false, .idxS 5 (.t 23) (.t 24)⟩,
  ⟨some 26, none, false, .ld true 5 (.t 25)⟩,
  ⟨some 5, none, false, .alcv [] [(.int .i64 0), (.int .i64 0), (.int .i64 0), (.int .i64 0), (.int .i64 0)]⟩,
  ⟨none, none, false, .stv 5 [] 5 5 (.t 26)⟩]

def f76r7 : List Abs.Op := [
  ⟨some 27, none, false, .fadr 0 (.t 4)⟩,
  ⟨some 28, none, false, .ldv 4 false 1 27⟩,
  ⟨some 29, none, false, .fadr 0 (.t 5)⟩,
  ⟨some 30, none, false, .ldv 5 false 1 29⟩,
  ⟨some 31, none, false, .bin .leq (.t 28) (.t 30)⟩,
  ⟨some 32, none, false, .mv (.t 31)⟩,
  ⟨some 33, some (32, false), false, .fadr 1 (.t 4)⟩,
  ⟨some 34, some (32, false), false, .ldv 4 false 1 33⟩,
  ⟨some 35, some (32, false), false, .fadr 1 (.t 5)⟩,
  ⟨some 36, some (32, false), false, .ldv 5 false 1 35⟩,
  ⟨some 37, some (32, false), false, .bin .leq (.t 34) (.t 36)⟩,
  ⟨some 38, none, false, .pick (.t 32) (.c (.bool true)) (.t 37)⟩,
  ⟨some 39, none, false, .mv (.t 38)⟩,
  ⟨some 40, some (39, false), false, .fadr 2 (.t 4)⟩,
  ⟨some 41, some (39, false), false, .ldv 4 false 1 40⟩,
  ⟨some 42, some (39, false), false, .fadr 2 (.t 5)⟩,
  ⟨some 43, some (39, false), false, .ldv 5 false 1 42⟩,
  ⟨some 44, some (39, false), false, .bin .leq (.t 41) (.t 43)⟩,
  ⟨some 45, none, false, .pick (.t 39) (.c (.bool true)) (.t 44)⟩,
  ⟨some 46, none, false, .mv (.t 45)⟩,
  ⟨some 47, some (46, false), false, .fadr 4 (.t 4)⟩,
  ⟨some 48, some (46, false), false, .ldv 4 false 1 47⟩,
  ⟨some 49, some (46, false), false, .fadr 4 (.t 5)⟩,
  ⟨some 50, some (46, false), false, .ldv 5 false 1 49⟩,
  ⟨some 51, some (46, false), false, .bin .lss (.t 48) (.t 50)⟩,
  ⟨some 52, none, false, .pick (.t 46) (.c (.bool true)) (.t 51)⟩]

def f76r8 : List Abs.Op := [
  ⟨some 2, none, false, .mv (.c (.bool false))⟩]

def f76r9 : List Abs.Op := [
  ⟨some 53, none, false, .bin .add (.t 18) (.c (.int .i64 1))⟩,
  ⟨some 18, none, false, .mv (.t 53)⟩]

def f_steam_Table_valid_l10 : Abs.Cmd :=
  (.seq (.reg [0, 16, 17, 18, 19] f76r4) (.seq (.ite (.t 19) .nop (.exit 0)) (.seq (.blk 1 (.seq (.reg [0, 3, 4, 16, 17, 18] f76r5) (.seq (.reg [0, 4, 5, 16, 17, 18] f76r6) (.seq (.reg [0, 16, 17, 18, 52] f76r7) (.ite (.t 52) (.seq (.reg [2] f76r8) .ret) .nop))))) (.reg [0, 16, 17, 18] f76r9))))

def f76r11 : List Abs.Op := [
  ⟨some 2, none, false, .mv (.c (.bool true))⟩]

def a_steam_Table_valid : Ann := ⟨[(10, [2]), (9, [0, 16, 17, 18]), (8, [2]), (7, [0, 16, 17, 18, 52]), (6, [0, 4, 5, 16, 17, 18]), (5, [0, 3, 4, 16, 17, 18]), (4, [0, 16, 17, 18, 19]), (3, [0, 16, 17, 18]), (2, [2]), (1, [0, 14]), (0, [0])], [(0, [0, 16, 17, 18])], [], [4, 5], [4, 5], [], [], [], [], [], []⟩
def f_steam_Table_valid : Abs.Fn := ⟨1, [.t 2],
  (.seq (.reg [0] f76r0) (.seq (.seq (.reg [0, 14] f76r1) (.ite (.t 14) (.seq (.reg [2] f76r2) .ret) .nop)) (.seq (.seq (.reg [0, 16, 17, 18] f76r3) (.blk 0 (.loop [0, 16, 17, 18] false f_steam_Table_valid_l10))) (.seq (.reg [2] f76r11) .ret))))⟩

@[simp] theorem e76r0 : type_of% f76r0.eq_1 := by_rfl f76r0.eq_1
@[simp] theorem e76r1 : type_of% f76r1.eq_1 := by_rfl f76r1.eq_1
@[simp] theorem e76r2 : type_of% f76r2.eq_1 := by_rfl f76r2.eq_1
@[simp] theorem e76r3 : type_of% f76r3.eq_1 := by_rfl f76r3.eq_1
@[simp] theorem e76r4 : type_of% f76r4.eq_1 := by_rfl f76r4.eq_1
@[simp] theorem e76r5 : type_of% f76r5.eq_1 := by_rfl f76r5.eq_1
@[simp] theorem e76r6 : type_of% f76r6.eq_1 := by_rfl f76r6.eq_1
@[simp] theorem e76r7 : type_of% f76r7.eq_1 := by_rfl f76r7.eq_1
@[simp] theorem e76r8 : type_of% f76r8.eq_1 := by_rfl f76r8.eq_1
@[simp] theorem e76r9 : type_of% f76r9.eq_1 := by_rfl f76r9.eq_1
@[simp] theorem e76r11 : type_of% f76r11.eq_1 := by_rfl f76r11.eq_1
theorem e_steam_Table_valid_l10 : type_of% f_steam_Table_valid_l10.eq_1 := by_rfl f_steam_Table_valid_l10.eq_1
theorem e_steam_Table_valid : type_of% f_steam_Table_valid.eq_1 := by_rfl f_steam_Table_valid.eq_1
theorem ok_steam_Table_valid : fnC Try.prog a_steam_Table_valid Try.f76 = some f_steam_Table_valid := by kernel_rfl

/-! 77 slices.ContainsFunc[[]fumarole/rock.Bore,fumarole/rock.Bore] -/
def f77r0 : List Abs.Op := [
  ⟨some 4, none, false, .mv (.c (.bool false))⟩]

def f77r1 : List Abs.Op := [
  ⟨some 5, none, false, .mv (.t 0)⟩,
  ⟨some 6, none, false, .mv (.t 1)⟩,
  ⟨some 7, none, false, .call false (.c (.fn i_slices_IndexFunc_rock_Bore [] [])) [(.t 5), (.t 6)]⟩,
  ⟨some 8, none, false, .bin .geq (.t 7) (.c (.int .i64 0))⟩,
  ⟨some 4, none, false, .mv (.t 8)⟩]

def a_slices_ContainsFunc_rock_Bore : Ann := ⟨[(1, [4]), (0, [0, 1])], [], [], [], [], [], [], [], [], [], []⟩
def f_slices_ContainsFunc_rock_Bore : Abs.Fn := ⟨2, [.t 4],
  (.seq (.reg [0, 1] f77r0) (.seq (.reg [4] f77r1) .ret))⟩

@[simp] theorem e77r0 : type_of% f77r0.eq_1 := by_rfl f77r0.eq_1
@[simp] theorem e77r1 : type_of% f77r1.eq_1 := by_rfl f77r1.eq_1
theorem e_slices_ContainsFunc_rock_Bore : type_of% f_slices_ContainsFunc_rock_Bore.eq_1 := by_rfl f_slices_ContainsFunc_rock_Bore.eq_1
theorem ok_slices_ContainsFunc_rock_Bore : fnC Try.prog a_slices_ContainsFunc_rock_Bore Try.f77 = some f_slices_ContainsFunc_rock_Bore := by kernel_rfl

/-! 78 fumarole/rock.all[fumarole/rock.Bore]$1 -/
def f78r0 : List Abs.Op := [
  ⟨some 2, none, false, .boxi (.t 0)⟩,
  ⟨some 3, none, false, .mv (.c (.bool false))⟩]

def f78r1 : List Abs.Op := [
  ⟨some 4, none, false, .ld false 1 (.t 1)⟩,
  ⟨some 5, none, false, .ld true 3 (.t 2)⟩,
  ⟨some 6, none, false, .call false (.t 4) [(.t 5)]⟩,
  ⟨some 7, none, false, .un .not (.t 6)⟩,
  ⟨some 3, none, false, .mv (.t 7)⟩]

def a_rock_all_rock_Bore_1 : Ann := ⟨[(1, [3]), (0, [1, 2])], [], [], [], [], [], [], [], [], [], []⟩
def f_rock_all_rock_Bore_1 : Abs.Fn := ⟨2, [.t 3],
  (.seq (.reg [1, 2] f78r0) (.seq (.reg [3] f78r1) .ret))⟩

@[simp] theorem e78r0 : type_of% f78r0.eq_1 := by_rfl f78r0.eq_1
@[simp] theorem e78r1 : type_of% f78r1.eq_1 := by_rfl f78r1.eq_1
theorem e_rock_all_rock_Bore_1 : type_of% f_rock_all_rock_Bore_1.eq_1 := by_rfl f_rock_all_rock_Bore_1.eq_1
theorem ok_rock_all_rock_Bore_1 : fnC Try.prog a_rock_all_rock_Bore_1 Try.f78 = some f_rock_all_rock_Bore_1 := by kernel_rfl

/-! 79 fumarole/field.first -/
def f79r0 : List Abs.Op := [
  ⟨some 2, none, false, .mv (.c (.int .i64 0))⟩]

def f79r1 : List Abs.Op := [
  ⟨some 6, none, false, .mv (.t 0)⟩,
  ⟨some 7, none, false, .lenS (.t 6)⟩,
  ⟨some 8, none, false, .mv (.c (.int .i64 0))⟩]

def f79r2 : List Abs.Op := [
  ⟨some 9, none, false, .bin .lss (.t 8) (.t 7)⟩]

def f79r3 : List Abs.Op := [
  ⟨some 10, none, false, .idxS 1 (.t 6) (.t 8)⟩,
  ⟨some 11, none, false, .ld false 1 (.t 10)⟩,
  ⟨some 4, none, false, .mv (.t 11)⟩]

def f79r4 : List Abs.Op := [
  ⟨some 12, none, false, .mv (.t 4)⟩,
  ⟨some 13, none, false, .call false (.t 12) []⟩,
  ⟨some 5, none, false, .mv (.t 13)⟩]

def f79r5 : List Abs.Op := [
  ⟨some 14, none, false, .mv (.t 5)⟩,
  ⟨some 15, none, false, .bin .neq (.t 14) (.c (.int .i64 0))⟩]

def f79r6 : List Abs.Op := [
  ⟨some 16, none, false, .mv (.t 5)⟩,
  ⟨some 2, none, false, .mv (.t 16)⟩]

def f79r7 : List Abs.Op := [
  ⟨some 17, none, false, .bin .add (.t 8) (.c (.int .i64 1))⟩,
  ⟨some 8, none, false, .mv (.t 17)⟩]

def f_field_first_l8 : Abs.Cmd :=
  (.seq (.reg [6, 7, 8, 9] f79r2) (.seq (.ite (.t 9) .nop (.exit 0)) (.seq (.blk 1 (.seq (.reg [4, 6, 7, 8] f79r3) (.seq (.reg [5, 6, 7, 8] f79r4) (.seq (.reg [5, 6, 7, 8, 15] f79r5) (.ite (.t 15) (.seq (.reg [2] f79r6) .ret) .nop))))) (.reg [6, 7, 8] f79r7))))

def f79r9 : List Abs.Op := [
  ⟨some 2, none, false, .mv (.c (.int .i64 0))⟩]

def a_field_first : Ann := ⟨[(8, [2]), (7, [6, 7, 8]), (6, [2]), (5, [5, 6, 7, 8, 15]), (4, [5, 6, 7, 8]), (3, [4, 6, 7, 8]), (2, [6, 7, 8, 9]), (1, [6, 7, 8]), (0, [0])], [(0, [6, 7, 8])], [], [], [], [], [], [], [], [], []⟩
def f_field_first : Abs.Fn := ⟨1, [.t 2],
  (.seq (.reg [0] f79r0) (.seq (.seq (.reg [6, 7, 8] f79r1) (.blk 0 (.loop [6, 7, 8] false f_field_first_l8))) (.seq (.reg [2] f79r9) .ret)))⟩

@[simp] theorem e79r0 : type_of% f79r0.eq_1 := by_rfl f79r0.eq_1
@[simp] theorem e79r1 : type_of% f79r1.eq_1 := by_rfl f79r1.eq_1
@[simp] theorem e79r2 : type_of% f79r2.eq_1 := by_rfl f79r2.eq_1
@[simp] theorem e79r3 : type_of% f79r3.eq_1 := by_rfl f79r3.eq_1
@[simp] theorem e79r4 : type_of% f79r4.eq_1 := by_rfl f79r4.eq_1
@[simp] theorem e79r5 : type_of% f79r5.eq_1 := by_rfl f79r5.eq_1
@[simp] theorem e79r6 : type_of% f79r6.eq_1 := by_rfl f79r6.eq_1
@[simp] theorem e79r7 : type_of% f79r7.eq_1 := by_rfl f79r7.eq_1
@[simp] theorem e79r9 : type_of% f79r9.eq_1 := by_rfl f79r9.eq_1
theorem e_field_first_l8 : type_of% f_field_first_l8.eq_1 := by_rfl f_field_first_l8.eq_1
theorem e_field_first : type_of% f_field_first.eq_1 := by_rfl f_field_first.eq_1
theorem ok_field_first : fnC Try.prog a_field_first Try.f79 = some f_field_first := by kernel_rfl

/-! 80 fumarole/field.CheckModels$1 -/
def f80r0 : List Abs.Op := [
  ⟨some 2, none, false, .mv (.c (.int .i64 0))⟩]

def f80r1 : List Abs.Op := [
  ⟨some 3, none, false, .ld true 4 (.t 0)⟩,
  ⟨some 4, none, false, .ld false 1 (.t 1)⟩,
  ⟨some 5, none, false, .call false (.c (.fn i_field_Field_models [] [])) [(.t 3), (.t 4)]⟩,
  ⟨some 2, none, false, .mv (.t 5)⟩]

def a_field_CheckModels_1 : Ann := ⟨[(1, [2]), (0, [0, 1])], [], [], [], [], [], [], [], [], [], []⟩
def f_field_CheckModels_1 : Abs.Fn := ⟨2, [.t 2],
  (.seq (.reg [0, 1] f80r0) (.seq (.reg [2] f80r1) .ret))⟩

@[simp] theorem e80r0 : type_of% f80r0.eq_1 := by_rfl f80r0.eq_1
@[simp] theorem e80r1 : type_of% f80r1.eq_1 := by_rfl f80r1.eq_1
theorem e_field_CheckModels_1 : type_of% f_field_CheckModels_1.eq_1 := by_rfl f_field_CheckModels_1.eq_1
theorem ok_field_CheckModels_1 : fnC Try.prog a_field_CheckModels_1 Try.f80 = some f_field_CheckModels_1 := by kernel_rfl

/-! 81 (fumarole/field.Field).models -/
def f81r0 : List Abs.Op := [
  ⟨some 2, none, false, .boxi (.t 0)⟩,
  ⟨some 4, none, false, .mv (.c (.int .i64 0))⟩]

def f81r1 : List Abs.Op := [
  ⟨some 5, none, false, .mv (.t 1)⟩,
  ⟨some 6, none, false, .lenS (.t 5)⟩,
  ⟨some 7, none, false, .call false (.c (.fn i_field_within [] [])) [(.t 6), (.c (.int .i64 1)), (.c (.int .i64 40))]⟩,
  ⟨some 8, none, false, .un .not (.t 7)⟩]

def f81r2 : List Abs.Op := [
  ⟨some 4, none, false, .mv (.c (.int .i64 3))⟩]

def f81r3 : List Abs.Op := [
  ⟨some 9, none, false, .mv (.t 1)⟩,
  ⟨some 10, none, false, .mkf i_field_Field_models_1 [] [(.t 2)]⟩,
  ⟨some 11, none, false, .call false (.c (.fn i_field_each_field_Model [] [])) [(.t 9), (.t 10)]⟩,
  ⟨some 4, none, false, .mv (.t 11)⟩]

def a_field_Field_models : Ann := ⟨[(3, [4]), (2, [4]), (1, [1, 2, 8]), (0, [1, 2])], [], [], [], [], [], [], [], [], [], []⟩
def f_field_Field_models : Abs.Fn := ⟨2, [.t 4],
  (.seq (.reg [1, 2] f81r0) (.seq (.seq (.reg [1, 2, 8] f81r1) (.ite (.t 8) (.seq (.reg [4] f81r2) .ret) .nop)) (.seq (.reg [4] f81r3) .ret)))⟩

@[simp] theorem e81r0 : type_of% f81r0.eq_1 := by_rfl f81r0.eq_1
@[simp] theorem e81r1 : type_of% f81r1.eq_1 := by_rfl f81r1.eq_1
@[simp] theorem e81r2 : type_of% f81r2.eq_1 := by_rfl f81r2.eq_1
@[simp] theorem e81r3 : type_of% f81r3.eq_1 := by_rfl f81r3.eq_1
theorem e_field_Field_models : type_of% f_field_Field_models.eq_1 := by_rfl f_field_Field_models.eq_1
theorem ok_field_Field_models : fnC Try.prog a_field_Field_models Try.f81 = some f_field_Field_models := by kernel_rfl

/-! 82 slices.ContainsFunc[[]int,int] -/
def f82r0 : List Abs.Op := [
  ⟨some 4, none, false, .mv (.c (.bool false))⟩]

def f82r1 : List Abs.Op := [
  ⟨some 5, none, false, .mv (.t 0)⟩,
  ⟨some 6, none, false, .mv (.t 1)⟩,
  ⟨some 7, none, false, .call false (.c (.fn i_slices_IndexFunc_int [] [])) [(.t 5), (.t 6)]⟩,
  ⟨some 8, none, false, .bin .geq (.t 7) (.c (.int .i64 0))⟩,
  ⟨some 4, none, false, .mv (.t 8)⟩]

def a_slices_ContainsFunc_int : Ann := ⟨[(1, [4]), (0, [0, 1])], [], [], [], [], [], [], [], [], [], []⟩
def f_slices_ContainsFunc_int : Abs.Fn := ⟨2, [.t 4],
  (.seq (.reg [0, 1] f82r0) (.seq (.reg [4] f82r1) .ret))⟩

@[simp] theorem e82r0 : type_of% f82r0.eq_1 := by_rfl f82r0.eq_1
@[simp] theorem e82r1 : type_of% f82r1.eq_1 := by_rfl f82r1.eq_1
theorem e_slices_ContainsFunc_int : type_of% f_slices_ContainsFunc_int.eq_1 := by_rfl f_slices_ContainsFunc_int.eq_1
theorem ok_slices_ContainsFunc_int : fnC Try.prog a_slices_ContainsFunc_int Try.f82 = some f_slices_ContainsFunc_int := by kernel_rfl

/-! 83 fumarole/rock.all[int]$1 -/
def f83r0 : List Abs.Op := [
  ⟨some 3, none, false, .mv (.c (.bool false))⟩]

def f83r1 : List Abs.Op := [
  ⟨some 4, none, false, .ld false 1 (.t 1)⟩,
  ⟨some 5, none, false, .mv (.t 0)⟩,
  ⟨some 6, none, false, .call false (.t 4) [(.t 5)]⟩,
  ⟨some 7, none, false, .un .not (.t 6)⟩,
  ⟨some 3, none, false, .mv (.t 7)⟩]

def a_rock_all_int_1 : Ann := ⟨[(1, [3]), (0, [0, 1])], [], [], [], [], [], [], [], [], [], []⟩
def f_rock_all_int_1 : Abs.Fn := ⟨2, [.t 3],
  (.seq (.reg [0, 1] f83r0) (.seq (.reg [3] f83r1) .ret))⟩

@[simp] theorem e83r0 : type_of% f83r0.eq_1 := by_rfl f83r0.eq_1
@[simp] theorem e83r1 : type_of% f83r1.eq_1 := by_rfl f83r1.eq_1
theorem e_rock_all_int_1 : type_of% f_rock_all_int_1.eq_1 := by_rfl f_rock_all_int_1.eq_1
theorem ok_rock_all_int_1 : fnC Try.prog a_rock_all_int_1 Try.f83 = some f_rock_all_int_1 := by kernel_rfl

/-! 84 (fumarole/rock.Bed).links -/
def f84r0 : List Abs.Op := [
  ⟨some 1, none, false, .boxi (.t 0)⟩,
  ⟨some 2, none, false, .mv (.c .nilf)⟩]

def f84r1 : List Abs.Op := [
  ⟨some 3, none, false, .mkf i_rock_Bed_links_1 [] [(.t 1)]⟩,
  ⟨some 2, none, false, .mv (.t 3)⟩]

def a_rock_Bed_links : Ann := ⟨[(1, [2]), (0, [1])], [], [], [], [], [], [], [], [], [], []⟩
def f_rock_Bed_links : Abs.Fn := ⟨1, [.t 2],
  (.seq (.reg [1] f84r0) (.seq (.reg [2] f84r1) .ret))⟩

@[simp] theorem e84r0 : type_of% f84r0.eq_1 := by_rfl f84r0.eq_1
@[simp] theorem e84r1 : type_of% f84r1.eq_1 := by_rfl f84r1.eq_1
theorem e_rock_Bed_links : type_of% f_rock_Bed_links.eq_1 := by_rfl f_rock_Bed_links.eq_1
theorem ok_rock_Bed_links : fnC Try.prog a_rock_Bed_links Try.f84 = some f_rock_Bed_links := by kernel_rfl

/-! 85 (fumarole/rock.bedded).open -/
def f85r0 : List Abs.Op := [
  ⟨some 2, none, false, .boxi (.t 0)⟩,
  ⟨some 4, none, false, .mv (.c (.int .i64 0))⟩]

def f85r1 : List Abs.Op := [
  ⟨some 5, none, false, .ld true 11 (.t 2)⟩,
  ⟨some 6, none, false, .call false (.c (.fn i_rock_bedded_kind [] [])) [(.t 5), (.c (.int .i64 1))]⟩,
  ⟨some 7, none, false, .mv (.t 1)⟩,
  ⟨some 8, none, false, .idxS 1 (.t 6) (.t 7)⟩,
  ⟨some 9, none, false, .ld false 1 (.t 8)⟩,
  ⟨some 4, none, false, .mv (.t 9)⟩]

def a_rock_bedded_open : Ann := ⟨[(1, [4]), (0, [1, 2])], [], [], [], [], [], [], [], [], [], []⟩
def f_rock_bedded_open : Abs.Fn := ⟨2, [.t 4],
  (.seq (.reg [1, 2] f85r0) (.seq (.reg [4] f85r1) .ret))⟩

@[simp] theorem e85r0 : type_of% f85r0.eq_1 := by_rfl f85r0.eq_1
@[simp] theorem e85r1 : type_of% f85r1.eq_1 := by_rfl f85r1.eq_1
theorem e_rock_bedded_open : type_of% f_rock_bedded_open.eq_1 := by_rfl f_rock_bedded_open.eq_1
theorem ok_rock_bedded_open : fnC Try.prog a_rock_bedded_open Try.f85 = some f_rock_bedded_open := by kernel_rfl

/-! 86 (fumarole/rock.bedded).feed -/
def f86r0 : List Abs.Op := [
  ⟨some 2, none, false, .boxi (.t 0)⟩,
  ⟨some 4, none, false, .mv (.c (.int .i64 0))⟩]

def f86r1 : List Abs.Op := [
  ⟨some 5, none, false, .ld true 11 (.t 2)⟩,
  ⟨some 6, none, false, .call false (.c (.fn i_rock_bedded_kind [] [])) [(.t 5), (.c (.int .i64 3))]⟩,
  ⟨some 7, none, false, .mv (.t 1)⟩,
  ⟨some 8, none, false, .idxS 1 (.t 6) (.t 7)⟩,
  ⟨some 9, none, false, .ld false 1 (.t 8)⟩,
  ⟨some 4, none, false, .mv (.t 9)⟩]

def a_rock_bedded_feed : Ann := ⟨[(1, [4]), (0, [1, 2])], [], [], [], [], [], [], [], [], [], []⟩
def f_rock_bedded_feed : Abs.Fn := ⟨2, [.t 4],
  (.seq (.reg [1, 2] f86r0) (.seq (.reg [4] f86r1) .ret))⟩

@[simp] theorem e86r0 : type_of% f86r0.eq_1 := by_rfl f86r0.eq_1
@[simp] theorem e86r1 : type_of% f86r1.eq_1 := by_rfl f86r1.eq_1
theorem e_rock_bedded_feed : type_of% f_rock_bedded_feed.eq_1 := by_rfl f_rock_bedded_feed.eq_1
theorem ok_rock_bedded_feed : fnC Try.prog a_rock_bedded_feed Try.f86 = some f_rock_bedded_feed := by kernel_rfl

/-! 87 slices.IndexFunc[[]fumarole/rock.Block,fumarole/rock.Block] -/
def f87r0 : List Abs.Op := [
  ⟨some 4, none, false, .mv (.c (.int .i64 0))⟩]

def f87r1 : List Abs.Op := [
  ⟨some 6, none, false, .mv (.t 0)⟩,
  ⟨some 7, none, false, .lenS (.t 6)⟩,
  ⟨some 8, none, false, .mv (.c (.int .i64 0))⟩]

def f87r2 : List Abs.Op := [
  ⟨some 9, none, false, .bin .lss (.t 8) (.t 7)⟩]

def f87r3 : List Abs.Op := [
  ⟨some 10, none, false, .mv (.t 8)⟩,
  ⟨some 5, none, false, .mv (.t 10)⟩]

def f87r4 : List Abs.Op := [
  ⟨some 11, none, false, .mv (.t 1)⟩,
  ⟨some 12, none, false, .mv (.t 0)⟩,
  ⟨some 13, none, false, .mv (.t 5)⟩,
  ⟨some 14, none, false, .idxS 3 (.t 12) (.t 13)⟩,
  ⟨some 15, none, false, .ld true 3 (.t 14)⟩,
  ⟨some 16, none, false, .call false (.t 11) [(.t 15)]⟩]

def f87r5 : List Abs.Op := [
  ⟨some 17, none, false, .mv (.t 5)⟩,
  ⟨some 4, none, false, .mv (.t 17)⟩]

def f87r6 : List Abs.Op := [
  ⟨some 18, none, false, .bin .add (.t 8) (.c (.int .i64 1))⟩,
  ⟨some 8, none, false, .mv (.t 18)⟩]

def f_slices_IndexFunc_rock_Block_l7 : Abs.Cmd :=
  (.seq (.reg [0, 1, 7, 8, 9] f87r2) (.seq (.ite (.t 9) .nop (.exit 0)) (.seq (.blk 1 (.seq (.reg [0, 1, 5, 7, 8] f87r3) (.seq (.reg [0, 1, 5, 7, 8, 16] f87r4) (.ite (.t 16) (.seq (.reg [4] f87r5) .ret) .nop)))) (.reg [0, 1, 7, 8] f87r6))))

def f87r8 : List Abs.Op := [
  ⟨some 4, none, false, .mv (.c (.int .i64 (-1)))⟩]

def a_slices_IndexFunc_rock_Block : Ann := ⟨[(7, [4]), (6, [0, 1, 7, 8]), (5, [4]), (4, [0, 1, 5, 7, 8, 16]), (3, [0, 1, 5, 7, 8]), (2, [0, 1, 7, 8, 9]), (1, [0, 1, 7, 8]), (0, [0, 1])], [(0, [0, 1, 7, 8])], [], [], [], [], [], [], [], [], []⟩
def f_slices_IndexFunc_rock_Block : Abs.Fn := ⟨2, [.t 4],
  (.seq (.reg [0, 1] f87r0) (.seq (.seq (.reg [0, 1, 7, 8] f87r1) (.blk 0 (.loop [0, 1, 7, 8] false f_slices_IndexFunc_rock_Block_l7))) (.seq (.reg [4] f87r8) .ret)))⟩

@[simp] theorem e87r0 : type_of% f87r0.eq_1 := by_rfl f87r0.eq_1
@[simp] theorem e87r1 : type_of% f87r1.eq_1 := by_rfl f87r1.eq_1
@[simp] theorem e87r2 : type_of% f87r2.eq_1 := by_rfl f87r2.eq_1
@[simp] theorem e87r3 : type_of% f87r3.eq_1 := by_rfl f87r3.eq_1
@[simp] theorem e87r4 : type_of% f87r4.eq_1 := by_rfl f87r4.eq_1
@[simp] theorem e87r5 : type_of% f87r5.eq_1 := by_rfl f87r5.eq_1
@[simp] theorem e87r6 : type_of% f87r6.eq_1 := by_rfl f87r6.eq_1
@[simp] theorem e87r8 : type_of% f87r8.eq_1 := by_rfl f87r8.eq_1
theorem e_slices_IndexFunc_rock_Block_l7 : type_of% f_slices_IndexFunc_rock_Block_l7.eq_1 := by_rfl f_slices_IndexFunc_rock_Block_l7.eq_1
theorem e_slices_IndexFunc_rock_Block : type_of% f_slices_IndexFunc_rock_Block.eq_1 := by_rfl f_slices_IndexFunc_rock_Block.eq_1
theorem ok_slices_IndexFunc_rock_Block : fnC Try.prog a_slices_IndexFunc_rock_Block Try.f87 = some f_slices_IndexFunc_rock_Block := by kernel_rfl

/-! 90 (fumarole/field.Field).valid -/
def f90r0 : List Abs.Op := [
  ⟨some 1, none, false, .boxi (.t 0)⟩,
  ⟨some 2, none, false, .mv (.c (.bool false))⟩]

def f90r1 : List Abs.Op := [
  ⟨some 3, none, false, .fadr 0 (.t 1)⟩,
  ⟨some 4, none, false, .ld false 1 (.t 3)⟩,
  ⟨some 5, none, false, .call false (.c (.fn i_field_within [] [])) [(.t 4), (.c (.int .i64 1)), (.c (.int .i64 8))]⟩,
  ⟨some 6, none, false, .mv (.t 5)⟩,
  ⟨some 7, some (6, true), false, .fadr 1 (.t 1)⟩,
  ⟨some 8, some (6, true), false, .ld false 1 (.t 7)⟩,
  ⟨some 9, some (6, true), false, .call false (.c (.fn i_field_within [] [])) [(.t 8), (.c (.int .i64 1)), (.c (.int .i64 8))]⟩,
  ⟨some 10, none, false, .pick (.t 6) (.t 9) (.c (.bool false))⟩,
  ⟨some 11, none, false, .mv (.t 10)⟩,
  ⟨some 12, some (11, true), false, .fadr 2 (.t 1)⟩,
  ⟨some 13, some (11, true), false, .ld false 1 (.t 12)⟩,
  ⟨some 14, some (11, true), false, .call false (.c (.fn i_field_within [] [])) [(.t 13), (.c (.int .i64 1)), (.c (.int .i64 8))]⟩,
  ⟨some 15, none, false, .pick (.t 11) (.t 14) (.c (.bool false))⟩,
  ⟨some 16, none, false, .mv (.t 15)⟩,
  ⟨some 17, some (16, true), false, .ld true 4 (.t 1)⟩,
  ⟨some 18, some (16, true), false, .call false (.c (.fn i_field_Field_blocks [] [])) [(.t 17)]⟩,
  ⟨some 19, some (16, true), false, .bin .leq (.t 18) (.c (.int .i64 64))⟩,
  ⟨some 20, none, false, .pick (.t 16) (.t 19) (.c (.bool false))⟩,
  ⟨some 21, none, false, .mv (.t 20)⟩,
  ⟨some 22, some (21, true), false, .fadr 3 (.t 1)⟩,
  ⟨some 23, some (21, true), false, .ld false 1 (.t 22)⟩,
  ⟨some 24, some (21, true), false, .call false (.c (.fn i_field_within [] [])) [(.t 23), (.c (.int .i64 1)), (.c (.int .i64 6))]⟩,
  ⟨some 25, none, false, .pick (.t 21) (.t 24) (.c (.bool false))⟩,
  ⟨some 2, none, false, .mv (.t 25)⟩]

def a_field_Field_valid : Ann := ⟨[(1, [2]), (0, [1])], [], [], [], [], [], [], [], [], [], []⟩
def f_field_Field_valid : Abs.Fn := ⟨1, [.t 2],
  (.seq (.reg [1] f90r0) (.seq (.reg [2] f90r1) .ret))⟩

@[simp] theorem e90r0 : type_of% f90r0.eq_1 := by_rfl f90r0.eq_1
@[simp] theorem e90r1 : type_of% f90r1.eq_1 := by_rfl f90r1.eq_1
theorem e_field_Field_valid : type_of% f_field_Field_valid.eq_1 := by_rfl f_field_Field_valid.eq_1
theorem ok_field_Field_valid : fnC Try.prog a_field_Field_valid Try.f90 = some f_field_Field_valid := by kernel_rfl

/-! 91 fumarole/steam.within -/
def f91r0 : List Abs.Op := [
  ⟨some 6, none, false, .mv (.c (.bool false))⟩]

def f91r1 : List Abs.Op := [
  ⟨some 7, none, false, .mv (.t 1)⟩,
  ⟨some 8, none, false, .mv (.t 0)⟩,
  ⟨some 9, none, false, .bin .leq (.t 7) (.t 8)⟩,
  ⟨some 10, none, false, .mv (.t 9)⟩,
  ⟨some 11, some (10, true), false, .mv (.t 0)⟩,
  ⟨some 12, some (10, true), false, .mv (.t 2)⟩,
  ⟨some 13, some (10, true), false, .bin .leq (.t 11) (.t 12)⟩,
  ⟨some 14, none, false, .pick (.t 10) (.t 13) (.c (.bool false))⟩,
  ⟨some 6, none, false, .mv (.t 14)⟩]

def a_steam_within : Ann := ⟨[(1, [6]), (0, [0, 1, 2])], [], [], [], [], [], [], [], [], [], []⟩
def f_steam_within : Abs.Fn := ⟨3, [.t 6],
  (.seq (.reg [0, 1, 2] f91r0) (.seq (.reg [6] f91r1) .ret))⟩

@[simp] theorem e91r0 : type_of% f91r0.eq_1 := by_rfl f91r0.eq_1
@[simp] theorem e91r1 : type_of% f91r1.eq_1 := by_rfl f91r1.eq_1
theorem e_steam_within : type_of% f_steam_within.eq_1 := by_rfl f_steam_within.eq_1
theorem ok_steam_within : fnC Try.prog a_steam_within Try.f91 = some f_steam_within := by kernel_rfl

/-! 92 fumarole/steam.all[fumarole/steam.Row] -/
def f92r0 : List Abs.Op := [
  ⟨some 3, none, false, .boxi (.t 1)⟩,
  ⟨some 4, none, false, .mv (.c (.bool false))⟩]

def f92r1 : List Abs.Op := [
  ⟨some 5, none, false, .mv (.t 0)⟩,
  ⟨some 6, none, false, .mkf i_steam_all_steam_Row_1 [] [(.t 3)]⟩,
  ⟨some 7, none, false, .call false (.c (.fn i_slices_ContainsFunc_steam_Row [] [])) [(.t 5), (.t 6)]⟩,
  ⟨some 8, none, false, .un .not (.t 7)⟩,
  ⟨some 4, none, false, .mv (.t 8)⟩]

def a_steam_all_steam_Row : Ann := ⟨[(1, [4]), (0, [0, 3])], [], [], [], [], [], [], [], [], [], []⟩
def f_steam_all_steam_Row : Abs.Fn := ⟨2, [.t 4],
  (.seq (.reg [0, 3] f92r0) (.seq (.reg [4] f92r1) .ret))⟩

@[simp] theorem e92r0 : type_of% f92r0.eq_1 := by_rfl f92r0.eq_1
@[simp] theorem e92r1 : type_of% f92r1.eq_1 := by_rfl f92r1.eq_1
theorem e_steam_all_steam_Row : type_of% f_steam_all_steam_Row.eq_1 := by_rfl f_steam_all_steam_Row.eq_1
theorem ok_steam_all_steam_Row : fnC Try.prog a_steam_all_steam_Row Try.f92 = some f_steam_all_steam_Row := by kernel_rfl

/-! 93 (fumarole/steam.Row).alone -/
def f93r0 : List Abs.Op := [
  ⟨some 1, none, false, .boxi (.t 0)⟩,
  ⟨some 2, none, false, .mv (.c (.bool false))⟩]

def f93r1 : List Abs.Op := [
  ⟨some 3, none, false, .fadr 0 (.t 1)⟩,
  ⟨some 4, none, false, .ld false 1 (.t 3)⟩,
  ⟨some 5, none, false, .call false (.c (.fn i_steam_within [] [])) [(.t 4), (.c (.int .i64 0)), (.c (.int .i64 400))]⟩,
  ⟨some 6, none, false, .mv (.t 5)⟩,
  ⟨some 7, some (6, true), false, .fadr 1 (.t 1)⟩,
  ⟨some 8, some (6, true), false, .ld false 1 (.t 7)⟩,
  ⟨some 9, some (6, true), false, .call false (.c (.fn i_steam_within [] [])) [(.t 8), (.c (.int .i64 1)), (.c (.int .i64 10000))]⟩,
  ⟨some 10, none, false, .pick (.t 6) (.t 9) (.c (.bool false))⟩,
  ⟨some 11, none, false, .mv (.t 10)⟩,
  ⟨some 12, some (11, true), false, .fadr 2 (.t 1)⟩,
  ⟨some 13, some (11, true), false, .ld false 1 (.t 12)⟩,
  ⟨some 14, some (11, true), false, .call false (.c (.fn i_steam_within [] [])) [(.t 13), (.c (.int .i64 0)), (.c (.int .i64 4000))]⟩,
  ⟨some 15, none, false, .pick (.t 11) (.t 14) (.c (.bool false))⟩,
  ⟨some 16, none, false, .mv (.t 15)⟩,
  ⟨some 17, some (16, true), false, .fadr 4 (.t 1)⟩,
  ⟨some 18, some (16, true), false, .ld false 1 (.t 17)⟩,
  ⟨some 19, some (16, true), false, .call false (.c (.fn i_steam_within [] [])) [(.t 18), (.c (.int .i64 0)), (.c (.int .i64 2000))]⟩,
  ⟨some 20, none, false, .pick (.t 16) (.t 19) (.c (.bool false))⟩,
  ⟨some 21, none, false, .mv (.t 20)⟩,
  ⟨some 22, some (21, true), false, .fadr 2 (.t 1)⟩,
  ⟨some 23, some (21, true), false, .ld false 1 (.t 22)⟩,
  ⟨some 24, some (21, true), false, .fadr 3 (.t 1)⟩,
  ⟨some 25, some (21, true), false, .ld false 1 (.t 24)⟩,
  ⟨some 26, some (21, true), false, .bin .lss (.t 23) (.t 25)⟩,
  ⟨some 27, none, false, .pick (.t 21) (.t 26) (.c (.bool false))⟩,
  ⟨some 28, none, false, .mv (.t 27)⟩,
  ⟨some 29, some (28, true), false, .fadr 3 (.t 1)⟩,
  ⟨some 30, some (28, true), false, .ld false 1 (.t 29)⟩,
  ⟨some 31, some (28, true), false, .bin .leq (.t 30) (.c (.int .i64 4000))⟩,
  ⟨some 32, none, false, .pick (.t 28) (.t 31) (.c (.bool false))⟩,
  ⟨some 2, none, false, .mv (.t 32)⟩]

def a_steam_Row_alone : Ann := ⟨[(1, [2]), (0, [1])], [], [], [], [], [], [], [], [], [], []⟩
def f_steam_Row_alone : Abs.Fn := ⟨1, [.t 2],
  (.seq (.reg [1] f93r0) (.seq (.reg [2] f93r1) .ret))⟩

@[simp] theorem e93r0 : type_of% f93r0.eq_1 := by_rfl f93r0.eq_1
@[simp] theorem e93r1 : type_of% f93r1.eq_1 := by_rfl f93r1.eq_1
theorem e_steam_Row_alone : type_of% f_steam_Row_alone.eq_1 := by_rfl f_steam_Row_alone.eq_1
theorem ok_steam_Row_alone : fnC Try.prog a_steam_Row_alone Try.f93 = some f_steam_Row_alone := by kernel_rfl

/-! 94 slices.IndexFunc[[]fumarole/rock.Bore,fumarole/rock.Bore] -/
def f94r0 : List Abs.Op := [
  ⟨some 4, none, false, .mv (.c (.int .i64 0))⟩]

def f94r1 : List Abs.Op := [
  ⟨some 6, none, false, .mv (.t 0)⟩,
  ⟨some 7, none, false, .lenS (.t 6)⟩,
  ⟨some 8, none, false, .mv (.c (.int .i64 0))⟩]

def f94r2 : List Abs.Op := [
  ⟨some 9, none, false, .bin .lss (.t 8) (.t 7)⟩]

def f94r3 : List Abs.Op := [
  ⟨some 10, none, false, .mv (.t 8)⟩,
  ⟨some 5, none, false, .mv (.t 10)⟩]

def f94r4 : List Abs.Op := [
  ⟨some 11, none, false, .mv (.t 1)⟩,
  ⟨some 12, none, false, .mv (.t 0)⟩,
  ⟨some 13, none, false, .mv (.t 5)⟩,
  ⟨some 14, none, false, .idxS 3 (.t 12) (.t 13)⟩,
  ⟨some 15, none, false, .ld true 3 (.t 14)⟩,
  ⟨some 16, none, false, .call false (.t 11) [(.t 15)]⟩]

def f94r5 : List Abs.Op := [
  ⟨some 17, none, false, .mv (.t 5)⟩,
  ⟨some 4, none, false, .mv (.t 17)⟩]

def f94r6 : List Abs.Op := [
  ⟨some 18, none, false, .bin .add (.t 8) (.c (.int .i64 1))⟩,
  ⟨some 8, none, false, .mv (.t 18)⟩]

def f_slices_IndexFunc_rock_Bore_l7 : Abs.Cmd :=
  (.seq (.reg [0, 1, 7, 8, 9] f94r2) (.seq (.ite (.t 9) .nop (.exit 0)) (.seq (.blk 1 (.seq (.reg [0, 1, 5, 7, 8] f94r3) (.seq (.reg [0, 1, 5, 7, 8, 16] f94r4) (.ite (.t 16) (.seq (.reg [4] f94r5) .ret) .nop)))) (.reg [0, 1, 7, 8] f94r6))))

def f94r8 : List Abs.Op := [
  ⟨some 4, none, false, .mv (.c (.int .i64 (-1)))⟩]

def a_slices_IndexFunc_rock_Bore : Ann := ⟨[(7, [4]), (6, [0, 1, 7, 8]), (5, [4]), (4, [0, 1, 5, 7, 8, 16]), (3, [0, 1, 5, 7, 8]), (2, [0, 1, 7, 8, 9]), (1, [0, 1, 7, 8]), (0, [0, 1])], [(0, [0, 1, 7, 8])], [], [], [], [], [], [], [], [], []⟩
def f_slices_IndexFunc_rock_Bore : Abs.Fn := ⟨2, [.t 4],
  (.seq (.reg [0, 1] f94r0) (.seq (.seq (.reg [0, 1, 7, 8] f94r1) (.blk 0 (.loop [0, 1, 7, 8] false f_slices_IndexFunc_rock_Bore_l7))) (.seq (.reg [4] f94r8) .ret)))⟩

@[simp] theorem e94r0 : type_of% f94r0.eq_1 := by_rfl f94r0.eq_1
@[simp] theorem e94r1 : type_of% f94r1.eq_1 := by_rfl f94r1.eq_1
@[simp] theorem e94r2 : type_of% f94r2.eq_1 := by_rfl f94r2.eq_1
@[simp] theorem e94r3 : type_of% f94r3.eq_1 := by_rfl f94r3.eq_1
@[simp] theorem e94r4 : type_of% f94r4.eq_1 := by_rfl f94r4.eq_1
@[simp] theorem e94r5 : type_of% f94r5.eq_1 := by_rfl f94r5.eq_1
@[simp] theorem e94r6 : type_of% f94r6.eq_1 := by_rfl f94r6.eq_1
@[simp] theorem e94r8 : type_of% f94r8.eq_1 := by_rfl f94r8.eq_1
theorem e_slices_IndexFunc_rock_Bore_l7 : type_of% f_slices_IndexFunc_rock_Bore_l7.eq_1 := by_rfl f_slices_IndexFunc_rock_Bore_l7.eq_1
theorem e_slices_IndexFunc_rock_Bore : type_of% f_slices_IndexFunc_rock_Bore.eq_1 := by_rfl f_slices_IndexFunc_rock_Bore.eq_1
theorem ok_slices_IndexFunc_rock_Bore : fnC Try.prog a_slices_IndexFunc_rock_Bore Try.f94 = some f_slices_IndexFunc_rock_Bore := by kernel_rfl

end Go.Proofs.Ytehandllpmlcoaa
