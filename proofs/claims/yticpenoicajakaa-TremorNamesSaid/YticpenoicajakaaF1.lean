/- The code of functions of the program, in the small instruction set; each is what the translation makes of it. -/
import Derived.Test.YticpenoicajakaaIds
set_option linter.unusedVariables false
set_option maxRecDepth 100000
namespace Go.Proofs.Yticpenoicajakaa
open Go Go.Abs
/-! 56 fumarole/tremor.Light -/
def f_tremor_Light_r0 : List Abs.Op := [
  ⟨some 6, none, false, .mv (.c (.int .u8 0))⟩,
  ⟨some 7, none, false, .mv (.c (.int .u8 0))⟩,
  ⟨some 8, none, false, .mv (.c (.int .i64 0))⟩]

def f_tremor_Light_r1 : List Abs.Op := [
  ⟨some 17, none, false, .mv (.t 0)⟩,
  ⟨some 18, none, false, .lenS (.t 17)⟩,
  ⟨some 19, none, false, .bin .gtr (.t 18) (.c (.int .i64 20))⟩,
  ⟨some 16, none, false, .mv (.t 19)⟩]

def f_tremor_Light_r2 : List Abs.Op := [
  ⟨some 6, none, false, .mv (.c (.int .u8 0))⟩,
  ⟨some 7, none, false, .mv (.c (.int .u8 0))⟩,
  ⟨some 8, none, false, .mv (.c (.int .i64 3))⟩]

def f_tremor_Light_r3 : List Abs.Op := [
  ⟨some 21, none, false, .mv (.t 0)⟩,
  ⟨some 22, none, false, .call false (.c (.fn i_tremor_all_tremor_Rule [] [])) [(.t 21), (.c (.fn i_tremor_Rule_valid [] []))]⟩,
  ⟨some 23, none, false, .un .not (.t 22)⟩,
  ⟨some 20, none, false, .mv (.t 23)⟩]

def f_tremor_Light_r4 : List Abs.Op := [
  ⟨some 6, none, false, .mv (.c (.int .u8 0))⟩,
  ⟨some 7, none, false, .mv (.c (.int .u8 0))⟩,
  ⟨some 8, none, false, .mv (.c (.int .i64 1))⟩]

def f_tremor_Light_r5 : List Abs.Op := [
  ⟨some 25, none, false, .mv (.t 1)⟩,
  ⟨some 26, none, false, .lenS (.t 25)⟩,
  ⟨some 27, none, false, .bin .gtr (.t 26) (.c (.int .i64 200))⟩,
  ⟨some 24, none, false, .mv (.t 27)⟩]

def f_tremor_Light_r6 : List Abs.Op := [
  ⟨some 6, none, false, .mv (.c (.int .u8 0))⟩,
  ⟨some 7, none, false, .mv (.c (.int .u8 0))⟩,
  ⟨some 8, none, false, .mv (.c (.int .i64 3))⟩]

def f_tremor_Light_r7 : List Abs.Op := [
  ⟨some 29, none, false, .mv (.t 1)⟩,
  ⟨some 30, none, false, .call false (.c (.fn i_tremor_all_tremor_Event [] [])) [(.t 29), (.c (.fn i_tremor_Event_valid [] []))]⟩,
  ⟨some 31, none, false, .un .not (.t 30)⟩,
  ⟨some 28, none, false, .mv (.t 31)⟩]

def f_tremor_Light_r8 : List Abs.Op := [
  ⟨some 6, none, false, .mv (.c (.int .u8 0))⟩,
  ⟨some 7, none, false, .mv (.c (.int .u8 0))⟩,
  ⟨some 8, none, false, .mv (.c (.int .i64 1))⟩]

def f_tremor_Light_r9 : List Abs.Op := [
  ⟨some 33, none, false, .mv (.t 2)⟩,
  ⟨some 34, none, false, .call false (.c (.fn i_tremor_within [] [])) [(.t 33), (.c (.int .i64 0)), (.c (.int .i64 1000000))]⟩,
  ⟨some 35, none, false, .un .not (.t 34)⟩,
  ⟨some 32, none, false, .mv (.t 35)⟩]

def f_tremor_Light_r10 : List Abs.Op := [
  ⟨some 6, none, false, .mv (.c (.int .u8 0))⟩,
  ⟨some 7, none, false, .mv (.c (.int .u8 0))⟩,
  ⟨some 8, none, false, .mv (.c (.int .i64 2))⟩]

def f_tremor_Light_r11 : List Abs.Op := [
  ⟨some 36, none, false, .mv (.t 0)⟩,
  ⟨some 37, none, false, .lenS (.t 36)⟩,
  ⟨some 38, none, false, .mv (.c (.int .i64 0))⟩]

def f_tremor_Light_r12 : List Abs.Op := [
  ⟨some 39, none, false, .bin .lss (.t 38) (.t 37)⟩]

def f_tremor_Light_r13 : List Abs.Op := [
  ⟨some 40, none, false, .idxS 10 (.t 36) (.t 38)⟩,
  ⟨some 41, none, false, .ld true 10 (.t 40)⟩,
  ⟨some 10, none, false, .alcv [] [(.int .i64 0), (.int .i64 0), (.int .i64 0), (.int .i64 0), (.int .i64 0), (.int .i64 0), (.int .i64 0), (.int .i64 0), (.int .i64 0), (.int .u8 0)]⟩,
  ⟨none, none, false, .stv 10 [] 10 10 (.t 41)⟩]

def f_tremor_Light_r14 : List Abs.Op := [
  ⟨some 11, none, false, .mv (.c (.int .i64 0))⟩,
  ⟨some 12, none, false, .mv (.c (.int .i64 0))⟩]

def f_tremor_Light_r15 : List Abs.Op := [
  ⟨some 42, none, false, .ldv 10 true 10 10⟩,
  ⟨some 43, none, false, .mkf i_tremor_Rule_counts [(.t 42)] []⟩,
  ⟨some 13, none, false, .mv (.t 43)⟩]

def f_tremor_Light_r16 : List Abs.Op := [
  ⟨some 44, none, false, .mv (.t 1)⟩,
  ⟨some 45, none, false, .lenS (.t 44)⟩,
  ⟨some 46, none, false, .mv (.c (.int .i64 0))⟩]

def f_tremor_Light_r17 : List Abs.Op := [
  ⟨some 47, none, false, .bin .lss (.t 46) (.t 45)⟩]

def f_tremor_Light_r18 : List Abs.Op := [
  ⟨some 48, none, false, .idxS 2 (.t 44) (.t 46)⟩,
  ⟨some 49, none, false, .ld true 2 (.t 48)⟩,
  ⟨some 15, none, false, .alcv [] [(.int .i64 0), .nils]⟩,
  ⟨none, none, false, .stv 15 [] 2 15 (.t 49)⟩]

def f_tremor_Light_r19 : List Abs.Op := [
  ⟨some 50, none, false, .fadr 0 (.t 15)⟩,
  ⟨some 51, none, false, .ldv 15 false 1 50⟩,
  ⟨some 52, none, false, .mv (.t 2)⟩,
  ⟨some 53, none, false, .bin .gtr (.t 51) (.t 52)⟩,
  ⟨some 54, none, false, .mv (.t 53)⟩,
  ⟨some 55, some (54, false), false, .fadr 0 (.t 15)⟩,
  ⟨some 56, some (54, false), false, .ldv 15 false 1 55⟩,
  ⟨some 57, some (54, false), false, .mv (.t 2)⟩,
  ⟨some 58, some (54, false), false, .fadr 7 (.t 10)⟩,
  ⟨some 59, some (54, false), false, .ldv 10 false 1 58⟩,
  ⟨some 60, some (54, false), false, .bin .sub (.t 57) (.t 59)⟩,
  ⟨some 61, some (54, false), false, .bin .leq (.t 56) (.t 60)⟩,
  ⟨some 62, none, false, .pick (.t 54) (.c (.bool true)) (.t 61)⟩]

def f_tremor_Light_r20 : List Abs.Op := [
  ⟨some 63, none, false, .fadr 1 (.t 15)⟩,
  ⟨some 64, none, false, .ldv 15 false 1 63⟩,
  ⟨some 65, none, false, .mv (.t 13)⟩,
  ⟨some 66, none, false, .call false (.c (.fn i_slices_ContainsFunc_tremor_Spot [] [])) [(.t 64), (.t 65)]⟩]

def f_tremor_Light_r21 : List Abs.Op := [
  ⟨some 67, none, false, .mv (.t 11)⟩,
  ⟨some 68, none, false, .bin .add (.t 67) (.c (.int .i64 1))⟩,
  ⟨some 11, none, false, .mv (.t 68)⟩]

def f_tremor_Light_r22 : List Abs.Op := [
  ⟨some 69, none, false, .fadr 1 (.t 15)⟩,
  ⟨some 70, none, false, .ldv 15 false 1 69⟩,
  ⟨some 71, none, false, .mv (.t 13)⟩,
  ⟨some 72, none, false, .call false (.c (.fn i_tremor_all_tremor_Spot [] [])) [(.t 70), (.t 71)]⟩]

def f_tremor_Light_r23 : List Abs.Op := [
  ⟨some 73, none, false, .mv (.t 12)⟩,
  ⟨some 74, none, false, .bin .add (.t 73) (.c (.int .i64 1))⟩,
  ⟨some 12, none, false, .mv (.t 74)⟩]

def f_tremor_Light_r24 : List Abs.Op := [
  ⟨some 75, none, false, .bin .add (.t 46) (.c (.int .i64 1))⟩,
  ⟨some 46, none, false, .mv (.t 75)⟩]

def f_tremor_Light_l25 : Abs.Cmd :=
  (.seq (.reg [1, 2, 6, 7, 10, 11, 12, 13, 36, 37, 38, 44, 45, 46, 47] f_tremor_Light_r17) (.seq (.ite (.t 47) .nop (.exit 3)) (.seq (.blk 4 (.seq (.reg [1, 2, 6, 7, 10, 11, 12, 13, 15, 36, 37, 38, 44, 45, 46] f_tremor_Light_r18) (.seq (.seq (.reg [1, 2, 6, 7, 10, 11, 12, 13, 15, 36, 37, 38, 44, 45, 46, 62] f_tremor_Light_r19) (.ite (.t 62) (.exit 4) .nop)) (.seq (.seq (.reg [1, 2, 6, 7, 10, 11, 12, 13, 15, 36, 37, 38, 44, 45, 46, 66] f_tremor_Light_r20) (.ite (.t 66) (.reg [1, 2, 6, 7, 10, 11, 12, 13, 15, 36, 37, 38, 44, 45, 46] f_tremor_Light_r21) .nop)) (.seq (.reg [1, 2, 6, 7, 10, 11, 12, 13, 36, 37, 38, 44, 45, 46, 72] f_tremor_Light_r22) (.ite (.t 72) (.reg [1, 2, 6, 7, 10, 11, 12, 13, 36, 37, 38, 44, 45, 46] f_tremor_Light_r23) .nop)))))) (.reg [1, 2, 6, 7, 10, 11, 12, 13, 36, 37, 38, 44, 45, 46] f_tremor_Light_r24))))

def f_tremor_Light_r26 : List Abs.Op := [
  ⟨some 76, none, false, .mv (.t 11)⟩,
  ⟨some 77, none, false, .fadr 8 (.t 10)⟩,
  ⟨some 78, none, false, .ldv 10 false 1 77⟩,
  ⟨some 79, none, false, .bin .geq (.t 76) (.t 78)⟩]

def f_tremor_Light_r27 : List Abs.Op := [
  ⟨some 80, none, false, .mv (.t 6)⟩,
  ⟨some 81, none, false, .fadr 9 (.t 10)⟩,
  ⟨some 82, none, false, .ldv 10 false 1 81⟩,
  ⟨some 83, none, false, .mx (.t 80) (.t 82)⟩,
  ⟨some 6, none, false, .mv (.t 83)⟩]

def f_tremor_Light_r28 : List Abs.Op := [
  ⟨some 84, none, false, .mv (.t 12)⟩,
  ⟨some 85, none, false, .fadr 8 (.t 10)⟩,
  ⟨some 86, none, false, .ldv 10 false 1 85⟩,
  ⟨some 87, none, false, .bin .geq (.t 84) (.t 86)⟩]

def f_tremor_Light_r29 : List Abs.Op := [
  ⟨some 88, none, false, .mv (.t 7)⟩,
  ⟨some 89, none, false, .fadr 9 (.t 10)⟩,
  ⟨some 90, none, false, .ldv 10 false 1 89⟩,
  ⟨some 91, none, false, .mx (.t 88) (.t 90)⟩,
  ⟨some 7, none, false, .mv (.t 91)⟩]

def f_tremor_Light_r30 : List Abs.Op := [
  ⟨some 92, none, false, .bin .add (.t 38) (.c (.int .i64 1))⟩,
  ⟨some 38, none, false, .mv (.t 92)⟩]

def f_tremor_Light_l31 : Abs.Cmd :=
  (.seq (.reg [1, 2, 6, 7, 36, 37, 38, 39] f_tremor_Light_r12) (.seq (.ite (.t 39) .nop (.exit 1)) (.seq (.blk 2 (.seq (.reg [1, 2, 6, 7, 10, 36, 37, 38] f_tremor_Light_r13) (.seq (.reg [1, 2, 6, 7, 10, 11, 12, 36, 37, 38] f_tremor_Light_r14) (.seq (.reg [1, 2, 6, 7, 10, 11, 12, 13, 36, 37, 38] f_tremor_Light_r15) (.seq (.seq (.reg [1, 2, 6, 7, 10, 11, 12, 13, 36, 37, 38, 44, 45, 46] f_tremor_Light_r16) (.blk 3 (.loop [1, 2, 6, 7, 10, 11, 12, 13, 36, 37, 38, 44, 45, 46] false f_tremor_Light_l25))) (.seq (.seq (.reg [1, 2, 6, 7, 10, 12, 36, 37, 38, 79] f_tremor_Light_r26) (.ite (.t 79) (.reg [1, 2, 6, 7, 10, 12, 36, 37, 38] f_tremor_Light_r27) .nop)) (.seq (.reg [1, 2, 6, 7, 10, 36, 37, 38, 87] f_tremor_Light_r28) (.ite (.t 87) (.reg [1, 2, 6, 7, 36, 37, 38] f_tremor_Light_r29) .nop)))))))) (.reg [1, 2, 6, 7, 36, 37, 38] f_tremor_Light_r30))))

def f_tremor_Light_r32 : List Abs.Op := [
  ⟨some 93, none, false, .mv (.t 6)⟩,
  ⟨some 94, none, false, .mv (.t 7)⟩,
  ⟨some 6, none, false, .mv (.t 93)⟩,
  ⟨some 7, none, false, .mv (.t 94)⟩,
  ⟨some 8, none, false, .mv (.c (.int .i64 0))⟩]

def a_tremor_Light : Ann := ⟨[(30, [6, 7, 8]), (29, [1, 2, 6, 7, 36, 37, 38]), (28, [1, 2, 6, 7, 36, 37, 38]), (27, [1, 2, 6, 7, 10, 36, 37, 38, 87]), (26, [1, 2, 6, 7, 10, 12, 36, 37, 38]), (25, [1, 2, 6, 7, 10, 12, 36, 37, 38, 79]), (24, [1, 2, 6, 7, 10, 11, 12, 13, 36, 37, 38, 44, 45, 46]), (23, [1, 2, 6, 7, 10, 11, 12, 13, 36, 37, 38, 44, 45, 46]), (22, [1, 2, 6, 7, 10, 11, 12, 13, 36, 37, 38, 44, 45, 46, 72]), (21, [1, 2, 6, 7, 10, 11, 12, 13, 15, 36, 37, 38, 44, 45, 46]), (20, [1, 2, 6, 7, 10, 11, 12, 13, 15, 36, 37, 38, 44, 45, 46, 66]), (19, [1, 2, 6, 7, 10, 11, 12, 13, 15, 36, 37, 38, 44, 45, 46, 62]), (18, [1, 2, 6, 7, 10, 11, 12, 13, 15, 36, 37, 38, 44, 45, 46]), (17, [1, 2, 6, 7, 10, 11, 12, 13, 36, 37, 38, 44, 45, 46, 47]), (16, [1, 2, 6, 7, 10, 11, 12, 13, 36, 37, 38, 44, 45, 46]), (15, [1, 2, 6, 7, 10, 11, 12, 13, 36, 37, 38]), (14, [1, 2, 6, 7, 10, 11, 12, 36, 37, 38]), (13, [1, 2, 6, 7, 10, 36, 37, 38]), (12, [1, 2, 6, 7, 36, 37, 38, 39]), (11, [1, 2, 6, 7, 36, 37, 38]), (2, [6, 7, 8]), (4, [6, 7, 8]), (6, [6, 7, 8]), (8, [6, 7, 8]), (10, [6, 7, 8]), (9, [0, 1, 2, 6, 7, 32]), (7, [0, 1, 2, 6, 7, 28]), (5, [0, 1, 2, 6, 7, 24]), (3, [0, 1, 2, 6, 7, 20]), (1, [0, 1, 2, 6, 7, 16]), (0, [0, 1, 2, 6, 7])], [(3, [1, 2, 6, 7, 10, 11, 12, 13, 36, 37, 38, 44, 45, 46]), (1, [1, 2, 6, 7, 36, 37, 38])], [], [10, 15], [10, 15], [], [], []⟩
def f_tremor_Light : Abs.Fn := ⟨3, [.t 6, .t 7, .t 8],
  (.seq (.reg [0, 1, 2, 6, 7] f_tremor_Light_r0) (.seq (.blk 0 (.seq (.reg [0, 1, 2, 6, 7, 16] f_tremor_Light_r1) (.ite (.t 16) (.seq (.reg [6, 7, 8] f_tremor_Light_r2) .ret) (.seq (.reg [0, 1, 2, 6, 7, 20] f_tremor_Light_r3) (.ite (.t 20) (.seq (.reg [6, 7, 8] f_tremor_Light_r4) .ret) (.seq (.reg [0, 1, 2, 6, 7, 24] f_tremor_Light_r5) (.ite (.t 24) (.seq (.reg [6, 7, 8] f_tremor_Light_r6) .ret) (.seq (.reg [0, 1, 2, 6, 7, 28] f_tremor_Light_r7) (.ite (.t 28) (.seq (.reg [6, 7, 8] f_tremor_Light_r8) .ret) (.seq (.reg [0, 1, 2, 6, 7, 32] f_tremor_Light_r9) (.ite (.t 32) (.seq (.reg [6, 7, 8] f_tremor_Light_r10) .ret) .nop))))))))))) (.seq (.seq (.reg [1, 2, 6, 7, 36, 37, 38] f_tremor_Light_r11) (.blk 1 (.loop [1, 2, 6, 7, 36, 37, 38] false f_tremor_Light_l31))) (.seq (.reg [6, 7, 8] f_tremor_Light_r32) .ret))))⟩

theorem e_tremor_Light_r0 : type_of% f_tremor_Light_r0.eq_1 := by_rfl f_tremor_Light_r0.eq_1
theorem e_tremor_Light_r1 : type_of% f_tremor_Light_r1.eq_1 := by_rfl f_tremor_Light_r1.eq_1
theorem e_tremor_Light_r2 : type_of% f_tremor_Light_r2.eq_1 := by_rfl f_tremor_Light_r2.eq_1
theorem e_tremor_Light_r3 : type_of% f_tremor_Light_r3.eq_1 := by_rfl f_tremor_Light_r3.eq_1
theorem e_tremor_Light_r4 : type_of% f_tremor_Light_r4.eq_1 := by_rfl f_tremor_Light_r4.eq_1
theorem e_tremor_Light_r5 : type_of% f_tremor_Light_r5.eq_1 := by_rfl f_tremor_Light_r5.eq_1
theorem e_tremor_Light_r6 : type_of% f_tremor_Light_r6.eq_1 := by_rfl f_tremor_Light_r6.eq_1
theorem e_tremor_Light_r7 : type_of% f_tremor_Light_r7.eq_1 := by_rfl f_tremor_Light_r7.eq_1
theorem e_tremor_Light_r8 : type_of% f_tremor_Light_r8.eq_1 := by_rfl f_tremor_Light_r8.eq_1
theorem e_tremor_Light_r9 : type_of% f_tremor_Light_r9.eq_1 := by_rfl f_tremor_Light_r9.eq_1
theorem e_tremor_Light_r10 : type_of% f_tremor_Light_r10.eq_1 := by_rfl f_tremor_Light_r10.eq_1
theorem e_tremor_Light_r11 : type_of% f_tremor_Light_r11.eq_1 := by_rfl f_tremor_Light_r11.eq_1
theorem e_tremor_Light_r12 : type_of% f_tremor_Light_r12.eq_1 := by_rfl f_tremor_Light_r12.eq_1
theorem e_tremor_Light_r13 : type_of% f_tremor_Light_r13.eq_1 := by_rfl f_tremor_Light_r13.eq_1
theorem e_tremor_Light_r14 : type_of% f_tremor_Light_r14.eq_1 := by_rfl f_tremor_Light_r14.eq_1
theorem e_tremor_Light_r15 : type_of% f_tremor_Light_r15.eq_1 := by_rfl f_tremor_Light_r15.eq_1
theorem e_tremor_Light_r16 : type_of% f_tremor_Light_r16.eq_1 := by_rfl f_tremor_Light_r16.eq_1
theorem e_tremor_Light_r17 : type_of% f_tremor_Light_r17.eq_1 := by_rfl f_tremor_Light_r17.eq_1
theorem e_tremor_Light_r18 : type_of% f_tremor_Light_r18.eq_1 := by_rfl f_tremor_Light_r18.eq_1
theorem e_tremor_Light_r19 : type_of% f_tremor_Light_r19.eq_1 := by_rfl f_tremor_Light_r19.eq_1
theorem e_tremor_Light_r20 : type_of% f_tremor_Light_r20.eq_1 := by_rfl f_tremor_Light_r20.eq_1
theorem e_tremor_Light_r21 : type_of% f_tremor_Light_r21.eq_1 := by_rfl f_tremor_Light_r21.eq_1
theorem e_tremor_Light_r22 : type_of% f_tremor_Light_r22.eq_1 := by_rfl f_tremor_Light_r22.eq_1
theorem e_tremor_Light_r23 : type_of% f_tremor_Light_r23.eq_1 := by_rfl f_tremor_Light_r23.eq_1
theorem e_tremor_Light_r24 : type_of% f_tremor_Light_r24.eq_1 := by_rfl f_tremor_Light_r24.eq_1
theorem e_tremor_Light_l25 : type_of% f_tremor_Light_l25.eq_1 := by_rfl f_tremor_Light_l25.eq_1
theorem e_tremor_Light_r26 : type_of% f_tremor_Light_r26.eq_1 := by_rfl f_tremor_Light_r26.eq_1
theorem e_tremor_Light_r27 : type_of% f_tremor_Light_r27.eq_1 := by_rfl f_tremor_Light_r27.eq_1
theorem e_tremor_Light_r28 : type_of% f_tremor_Light_r28.eq_1 := by_rfl f_tremor_Light_r28.eq_1
theorem e_tremor_Light_r29 : type_of% f_tremor_Light_r29.eq_1 := by_rfl f_tremor_Light_r29.eq_1
theorem e_tremor_Light_r30 : type_of% f_tremor_Light_r30.eq_1 := by_rfl f_tremor_Light_r30.eq_1
theorem e_tremor_Light_l31 : type_of% f_tremor_Light_l31.eq_1 := by_rfl f_tremor_Light_l31.eq_1
theorem e_tremor_Light_r32 : type_of% f_tremor_Light_r32.eq_1 := by_rfl f_tremor_Light_r32.eq_1
theorem e_tremor_Light : type_of% f_tremor_Light.eq_1 := by_rfl f_tremor_Light.eq_1
theorem ok_tremor_Light : fnC Try.prog a_tremor_Light Try.f56 = some f_tremor_Light := by kernel_rfl

/-! 57 (fumarole/tremor.heard).check -/
def f_tremor_heard_check_r0 : List Abs.Op := [
  ⟨some 1, none, false, .boxi (.t 0)⟩,
  ⟨some 2, none, false, .mv (.c (.int .i64 0))⟩]

def f_tremor_heard_check_r1 : List Abs.Op := [
  ⟨some 4, none, false, .fadr 0 (.t 1)⟩,
  ⟨some 5, none, false, .ld true 12 (.t 4)⟩,
  ⟨some 6, none, false, .call false (.c (.fn i_tremor_Net_valid [] [])) [(.t 5)]⟩,
  ⟨some 7, none, false, .un .not (.t 6)⟩,
  ⟨some 3, none, false, .mv (.t 7)⟩]

def f_tremor_heard_check_r2 : List Abs.Op := [
  ⟨some 2, none, false, .mv (.c (.int .i64 1))⟩]

def f_tremor_heard_check_r3 : List Abs.Op := [
  ⟨some 9, none, false, .fadr 12 (.t 1)⟩,
  ⟨some 10, none, false, .ld false 1 (.t 9)⟩,
  ⟨some 11, none, false, .lenS (.t 10)⟩,
  ⟨some 12, none, false, .bin .gtr (.t 11) (.c (.int .i64 60))⟩,
  ⟨some 8, none, false, .mv (.t 12)⟩]

def f_tremor_heard_check_r4 : List Abs.Op := [
  ⟨some 2, none, false, .mv (.c (.int .i64 3))⟩]

def f_tremor_heard_check_r5 : List Abs.Op := [
  ⟨some 14, none, false, .fadr 12 (.t 1)⟩,
  ⟨some 15, none, false, .ld false 1 (.t 14)⟩,
  ⟨some 16, none, false, .lenS (.t 15)⟩,
  ⟨some 17, none, false, .bin .eql (.t 16) (.c (.int .i64 0))⟩,
  ⟨some 18, none, false, .mv (.t 17)⟩,
  ⟨some 19, some (18, false), false, .fadr 12 (.t 1)⟩,
  ⟨some 20, some (18, false), false, .ld false 1 (.t 19)⟩,
  ⟨some 21, some (18, false), false, .mkf i_tremor_heard_check_1 [] [(.t 1)]⟩,
  ⟨some 22, some (18, false), false, .call false (.c (.fn i_tremor_all_tremor_Pick [] [])) [(.t 20), (.t 21)]⟩,
  ⟨some 23, some (18, false), false, .un .not (.t 22)⟩,
  ⟨some 24, none, false, .pick (.t 18) (.c (.bool true)) (.t 23)⟩,
  ⟨some 13, none, false, .mv (.t 24)⟩]

def f_tremor_heard_check_r6 : List Abs.Op := [
  ⟨some 2, none, false, .mv (.c (.int .i64 1))⟩]

def f_tremor_heard_check_r7 : List Abs.Op := [
  ⟨some 2, none, false, .mv (.c (.int .i64 0))⟩]

def a_tremor_heard_check : Ann := ⟨[(7, [2]), (2, [2]), (4, [2]), (6, [2]), (5, [13]), (3, [1, 8]), (1, [1, 3]), (0, [1])], [], [], [], [], [], [], []⟩
def f_tremor_heard_check : Abs.Fn := ⟨1, [.t 2],
  (.seq (.reg [1] f_tremor_heard_check_r0) (.seq (.blk 0 (.seq (.reg [1, 3] f_tremor_heard_check_r1) (.ite (.t 3) (.seq (.reg [2] f_tremor_heard_check_r2) .ret) (.seq (.reg [1, 8] f_tremor_heard_check_r3) (.ite (.t 8) (.seq (.reg [2] f_tremor_heard_check_r4) .ret) (.seq (.reg [13] f_tremor_heard_check_r5) (.ite (.t 13) (.seq (.reg [2] f_tremor_heard_check_r6) .ret) .nop))))))) (.seq (.reg [2] f_tremor_heard_check_r7) .ret)))⟩

theorem e_tremor_heard_check_r0 : type_of% f_tremor_heard_check_r0.eq_1 := by_rfl f_tremor_heard_check_r0.eq_1
theorem e_tremor_heard_check_r1 : type_of% f_tremor_heard_check_r1.eq_1 := by_rfl f_tremor_heard_check_r1.eq_1
theorem e_tremor_heard_check_r2 : type_of% f_tremor_heard_check_r2.eq_1 := by_rfl f_tremor_heard_check_r2.eq_1
theorem e_tremor_heard_check_r3 : type_of% f_tremor_heard_check_r3.eq_1 := by_rfl f_tremor_heard_check_r3.eq_1
theorem e_tremor_heard_check_r4 : type_of% f_tremor_heard_check_r4.eq_1 := by_rfl f_tremor_heard_check_r4.eq_1
theorem e_tremor_heard_check_r5 : type_of% f_tremor_heard_check_r5.eq_1 := by_rfl f_tremor_heard_check_r5.eq_1
theorem e_tremor_heard_check_r6 : type_of% f_tremor_heard_check_r6.eq_1 := by_rfl f_tremor_heard_check_r6.eq_1
theorem e_tremor_heard_check_r7 : type_of% f_tremor_heard_check_r7.eq_1 := by_rfl f_tremor_heard_check_r7.eq_1
theorem e_tremor_heard_check : type_of% f_tremor_heard_check.eq_1 := by_rfl f_tremor_heard_check.eq_1
theorem ok_tremor_heard_check : fnC Try.prog a_tremor_heard_check Try.f57 = some f_tremor_heard_check := by kernel_rfl

/-! 58 (fumarole/tremor.heard).located -/
def f_tremor_heard_located_r0 : List Abs.Op := [
  ⟨some 2, none, false, .boxi (.t 0)⟩,
  ⟨some 3, none, false, .boxi (.t 1)⟩,
  ⟨some 4, none, false, .alc [(0, 5)] [.nils]⟩]

def f_tremor_heard_located_r1 : List Abs.Op := [
  ⟨some 8, none, false, .fadr 0 (.t 2)⟩,
  ⟨some 9, none, false, .ld true 12 (.t 8)⟩,
  ⟨some 10, none, false, .call false (.c (.fn i_tremor_Net_lattice [] [])) [(.t 9)]⟩]

def f_tremor_heard_located_r2 : List Abs.Op := [
  ⟨some 5, none, false, .alcv [] [(.int .i64 0), (.int .i64 0), (.int .i64 0)]⟩,
  ⟨none, none, false, .stv 5 [] 3 5 (.t 11)⟩]

def f_tremor_heard_located_r3 : List Abs.Op := [
  ⟨some 13, none, false, .ld true 13 (.t 2)⟩,
  ⟨some 14, none, false, .ldv 5 true 3 5⟩,
  ⟨some 15, none, false, .ld false 1 (.t 3)⟩,
  ⟨some 16, none, false, .call false (.c (.fn i_tremor_heard_spans [] [])) [(.t 13), (.t 14), (.t 15)]⟩,
  ⟨some 17, none, false, .call false (.c (.fn i_tremor_common [] [])) [(.t 16)]⟩,
  ⟨some 12, none, false, .mv (.t 17)⟩,
  ⟨some 18, none, false, .ext (.t 12) 0⟩,
  ⟨some 19, none, false, .ext (.t 12) 1⟩,
  ⟨some 6, none, false, .alcv [] [(.int .i64 0), (.int .i64 0)]⟩,
  ⟨none, none, false, .stv 6 [] 2 6 (.t 18)⟩,
  ⟨some 7, none, false, .mv (.t 19)⟩]

def f_tremor_heard_located_r4 : List Abs.Op := [
  ⟨some 20, none, false, .mv (.t 7)⟩]

def f_tremor_heard_located_r5 : List Abs.Op := [
  ⟨some 21, none, false, .ld false 1 (.t 4)⟩,
  ⟨some 22, none, false, .ldv 5 true 3 5⟩,
  ⟨some 23, none, false, .ldv 6 true 2 6⟩,
  ⟨some 24, none, false, .bld [(.int .i64 0), (.int .i64 0), (.int .i64 0), (.int .i64 0), (.int .i64 0)] [(0, 3, (.t 22)), (3, 2, (.t 23))]⟩,
  ⟨some 25, none, false, .bsi 1 5 [(.int .i64 0), (.int .i64 0), (.int .i64 0), (.int .i64 0), (.int .i64 0)] [(0, 5, (.t 24))]⟩,
  ⟨some 26, none, false, .app 5 40 (.t 21) (.t 25)⟩,
  ⟨none, none, false, .st [(0, 5)] 1 (.t 4) (.t 26)⟩]

def f_tremor_heard_located_a6 : Abs.Cmd :=
  (.reg [2, 3, 4, 5] f_tremor_heard_located_r2)

def f_tremor_heard_located_b6 : Abs.Cmd :=
  (.blk 1 (.seq (.reg [4, 5, 6, 7] f_tremor_heard_located_r3) (.seq (.reg [4, 5, 6, 20] f_tremor_heard_located_r4) (.ite (.t 20) (.reg [] f_tremor_heard_located_r5) .nop))))

def f_tremor_heard_located_r7 : List Abs.Op := [
  ⟨some 27, none, false, .ld false 1 (.t 4)⟩,
  ⟨none, none, false, .st [(0, 5)] 1 (.t 4) (.t 27)⟩]

def a_tremor_heard_located : Ann := ⟨[(6, [4]), (5, []), (4, [4, 5, 6, 20]), (3, [4, 5, 6, 7]), (2, [2, 3, 4, 5]), (1, [2, 3, 4, 10]), (0, [2, 3, 4])], [(0, [2, 3, 4])], [], [4, 5, 6], [5, 6], [(2, [(0, 5)]), (5006, [(0, 5)]), (6001, [(0, 5)])], [], []⟩
def f_tremor_heard_located : Abs.Fn := ⟨2, [.c 4 false 1],
  (.seq (.reg [2, 3, 4] f_tremor_heard_located_r0) (.seq (.seq (.reg [2, 3, 4, 10] f_tremor_heard_located_r1) (.blk 0 (.rngf [2, 3, 4] (.t 10) [11] f_tremor_heard_located_a6 f_tremor_heard_located_b6))) (.seq (.reg [4] f_tremor_heard_located_r7) .ret)))⟩

theorem e_tremor_heard_located_r0 : type_of% f_tremor_heard_located_r0.eq_1 := by_rfl f_tremor_heard_located_r0.eq_1
theorem e_tremor_heard_located_r1 : type_of% f_tremor_heard_located_r1.eq_1 := by_rfl f_tremor_heard_located_r1.eq_1
theorem e_tremor_heard_located_r2 : type_of% f_tremor_heard_located_r2.eq_1 := by_rfl f_tremor_heard_located_r2.eq_1
theorem e_tremor_heard_located_r3 : type_of% f_tremor_heard_located_r3.eq_1 := by_rfl f_tremor_heard_located_r3.eq_1
theorem e_tremor_heard_located_r4 : type_of% f_tremor_heard_located_r4.eq_1 := by_rfl f_tremor_heard_located_r4.eq_1
theorem e_tremor_heard_located_r5 : type_of% f_tremor_heard_located_r5.eq_1 := by_rfl f_tremor_heard_located_r5.eq_1
theorem e_tremor_heard_located_a6 : type_of% f_tremor_heard_located_a6.eq_1 := by_rfl f_tremor_heard_located_a6.eq_1
theorem e_tremor_heard_located_b6 : type_of% f_tremor_heard_located_b6.eq_1 := by_rfl f_tremor_heard_located_b6.eq_1
theorem e_tremor_heard_located_r7 : type_of% f_tremor_heard_located_r7.eq_1 := by_rfl f_tremor_heard_located_r7.eq_1
theorem e_tremor_heard_located : type_of% f_tremor_heard_located.eq_1 := by_rfl f_tremor_heard_located.eq_1
theorem ok_tremor_heard_located : fnC Try.prog a_tremor_heard_located Try.f58 = some f_tremor_heard_located := by kernel_rfl

/-! 61 (fumarole/tremor.Net).valid -/
def f_tremor_Net_valid_r0 : List Abs.Op := [
  ⟨some 1, none, false, .boxi (.t 0)⟩,
  ⟨some 2, none, false, .mv (.c (.bool false))⟩]

def f_tremor_Net_valid_r1 : List Abs.Op := [
  ⟨some 4, none, false, .fadr 0 (.t 1)⟩,
  ⟨some 5, none, false, .ld false 1 (.t 4)⟩,
  ⟨some 6, none, false, .lenS (.t 5)⟩,
  ⟨some 7, none, false, .call false (.c (.fn i_tremor_within [] [])) [(.t 6), (.c (.int .i64 1)), (.c (.int .i64 12))]⟩,
  ⟨some 8, none, false, .un .not (.t 7)⟩,
  ⟨some 9, none, false, .mv (.t 8)⟩,
  ⟨some 10, some (9, false), false, .fadr 0 (.t 1)⟩,
  ⟨some 11, some (9, false), false, .ld false 1 (.t 10)⟩,
  ⟨some 12, some (9, false), false, .call false (.c (.fn i_tremor_all_tremor_Station [] [])) [(.t 11), (.c (.fn i_tremor_Station_valid [] []))]⟩,
  ⟨some 13, some (9, false), false, .un .not (.t 12)⟩,
  ⟨some 14, none, false, .pick (.t 9) (.c (.bool true)) (.t 13)⟩,
  ⟨some 15, none, false, .mv (.t 14)⟩,
  ⟨some 16, some (15, false), false, .fadr 5 (.t 1)⟩,
  ⟨some 17, some (15, false), false, .ld true 3 (.t 16)⟩,
  ⟨some 18, some (15, false), false, .fadr 8 (.t 1)⟩,
  ⟨some 19, some (15, false), false, .ld true 3 (.t 18)⟩,
  ⟨some 20, some (15, false), false, .call false (.c (.fn i_tremor_box [] [])) [(.t 17), (.t 19)]⟩,
  ⟨some 21, some (15, false), false, .un .not (.t 20)⟩,
  ⟨some 22, none, false, .pick (.t 15) (.c (.bool true)) (.t 21)⟩,
  ⟨some 23, none, false, .mv (.t 22)⟩,
  ⟨some 24, some (23, false), false, .fadr 11 (.t 1)⟩,
  ⟨some 25, some (23, false), false, .ld false 1 (.t 24)⟩,
  ⟨some 26, some (23, false), false, .call false (.c (.fn i_tremor_within [] [])) [(.t 25), (.c (.int .i64 1)), (.c (.int .i64 20000))]⟩,
  ⟨some 27, some (23, false), false, .un .not (.t 26)⟩,
  ⟨some 28, none, false, .pick (.t 23) (.c (.bool true)) (.t 27)⟩,
  ⟨some 29, none, false, .mv (.t 28)⟩,
  ⟨some 30, some (29, false), false, .fadr 1 (.t 1)⟩,
  ⟨some 31, some (29, false), false, .slca 2 2 (.t 30) none none⟩,
  ⟨some 32, some (29, false), false, .call false (.c (.fn i_tremor_all_tremor_Range [] [])) [(.t 31), (.c (.fn i_tremor_Net_valid_1 [] []))]⟩,
  ⟨some 33, some (29, false), false, .un .not (.t 32)⟩,
  ⟨some 34, none, false, .pick (.t 29) (.c (.bool true)) (.t 33)⟩]

def f_tremor_Net_valid_r2 : List Abs.Op := [
  ⟨some 2, none, false, .mv (.c (.bool false))⟩]

def f_tremor_Net_valid_r3 : List Abs.Op := [
  ⟨some 35, none, false, .ld true 12 (.t 1)⟩,
  ⟨some 36, none, false, .mkf i_tremor_Net_steps [(.t 35)] []⟩,
  ⟨some 3, none, false, .mv (.t 36)⟩]

def f_tremor_Net_valid_r4 : List Abs.Op := [
  ⟨some 37, none, true, .mv (.t 3)⟩,
  ⟨some 38, none, true, .fadr 5 (.t 1)⟩,
  ⟨some 39, none, true, .fadr 0 (.t 38)⟩,
  ⟨some 40, none, true, .ld false 1 (.t 39)⟩,
  ⟨some 41, none, true, .fadr 8 (.t 1)⟩,
  ⟨some 42, none, true, .fadr 0 (.t 41)⟩,
  ⟨some 43, none, true, .ld false 1 (.t 42)⟩,
  ⟨some 44, none, true, .call false (.t 37) [(.t 40), (.t 43)]⟩,
  ⟨some 45, none, true, .mv (.t 3)⟩,
  ⟨some 46, none, true, .fadr 5 (.t 1)⟩,
  ⟨some 47, none, true, .fadr 1 (.t 46)⟩,
  ⟨some 48, none, true, .ld false 1 (.t 47)⟩,
  ⟨some 49, none, true, .fadr 8 (.t 1)⟩,
  ⟨some 50, none, true, .fadr 1 (.t 49)⟩,
  ⟨some 51, none, true, .ld false 1 (.t 50)⟩,
  ⟨some 52, none, true, .call false (.t 45) [(.t 48), (.t 51)]⟩,
  ⟨some 53, none, true, .bin .mul (.t 44) (.t 52)⟩,
  ⟨some 54, none, true, .mv (.t 3)⟩,
  ⟨some 55, none, true, .fadr 5 (.t 1)⟩,
  ⟨some 56, none, true, .fadr 2 (.t 55)⟩,
  ⟨some 57, none, true, .ld false 1 (.t 56)⟩,
  ⟨some 58, none, true, .fadr 8 (.t 1)⟩,
  ⟨some 59, none, true, .fadr 2 (.t 58)⟩,
  ⟨some 60, none, true, .ld false 1 (.t 59)⟩,
  ⟨some 61, none, true, .call false (.t 54) [(.t 57), (.t 60)]⟩,
  ⟨some 62, none, false, .bin .mul (.t 53) (.t 61)⟩,
  ⟨some 63, none, false, .bin .leq (.t 62) (.c (.int .i64 2000))⟩,
  ⟨some 2, none, false, .mv (.t 63)⟩]

def a_tremor_Net_valid : Ann := ⟨[(4, [2]), (3, [1, 3]), (2, [2]), (1, [1, 34]), (0, [1])], [], [], [], [], [], [], []⟩
def f_tremor_Net_valid : Abs.Fn := ⟨1, [.t 2],
  (.seq (.reg [1] f_tremor_Net_valid_r0) (.seq (.seq (.reg [1, 34] f_tremor_Net_valid_r1) (.ite (.t 34) (.seq (.reg [2] f_tremor_Net_valid_r2) .ret) .nop)) (.seq (.reg [1, 3] f_tremor_Net_valid_r3) (.seq (.reg [2] f_tremor_Net_valid_r4) .ret))))⟩

theorem e_tremor_Net_valid_r0 : type_of% f_tremor_Net_valid_r0.eq_1 := by_rfl f_tremor_Net_valid_r0.eq_1
theorem e_tremor_Net_valid_r1 : type_of% f_tremor_Net_valid_r1.eq_1 := by_rfl f_tremor_Net_valid_r1.eq_1
theorem e_tremor_Net_valid_r2 : type_of% f_tremor_Net_valid_r2.eq_1 := by_rfl f_tremor_Net_valid_r2.eq_1
theorem e_tremor_Net_valid_r3 : type_of% f_tremor_Net_valid_r3.eq_1 := by_rfl f_tremor_Net_valid_r3.eq_1
theorem e_tremor_Net_valid_r4 : type_of% f_tremor_Net_valid_r4.eq_1 := by_rfl f_tremor_Net_valid_r4.eq_1
theorem e_tremor_Net_valid : type_of% f_tremor_Net_valid.eq_1 := by_rfl f_tremor_Net_valid.eq_1
theorem ok_tremor_Net_valid : fnC Try.prog a_tremor_Net_valid Try.f61 = some f_tremor_Net_valid := by kernel_rfl

/-! 62 (fumarole/tremor.Scale).valid -/
def f_tremor_Scale_valid_r0 : List Abs.Op := [
  ⟨some 1, none, false, .boxi (.t 0)⟩,
  ⟨some 2, none, false, .mv (.c (.bool false))⟩]

def f_tremor_Scale_valid_r1 : List Abs.Op := [
  ⟨some 3, none, false, .fadr 0 (.t 1)⟩,
  ⟨some 4, none, false, .ld false 1 (.t 3)⟩,
  ⟨some 5, none, false, .lenS (.t 4)⟩,
  ⟨some 6, none, false, .call false (.c (.fn i_tremor_within [] [])) [(.t 5), (.c (.int .i64 1)), (.c (.int .i64 60))]⟩,
  ⟨some 7, none, false, .mv (.t 6)⟩,
  ⟨some 8, some (7, true), false, .fadr 0 (.t 1)⟩,
  ⟨some 9, some (7, true), false, .ld false 1 (.t 8)⟩,
  ⟨some 10, some (7, true), false, .call false (.c (.fn i_tremor_all_int [] [])) [(.t 9), (.c (.fn i_tremor_Scale_valid_1 [] []))]⟩,
  ⟨some 11, none, false, .pick (.t 7) (.t 10) (.c (.bool false))⟩,
  ⟨some 12, none, false, .mv (.t 11)⟩,
  ⟨some 13, some (12, true), false, .fadr 0 (.t 1)⟩,
  ⟨some 14, some (12, true), false, .ld false 1 (.t 13)⟩,
  ⟨some 15, some (12, true), false, .call false (.c (.fn i_tremor_rising_int [] [])) [(.t 14), (.c (.fn i_tremor_Scale_valid_2 [] []))]⟩,
  ⟨some 16, none, false, .pick (.t 12) (.t 15) (.c (.bool false))⟩,
  ⟨some 17, none, false, .mv (.t 16)⟩,
  ⟨some 18, some (17, true), false, .fadr 1 (.t 1)⟩,
  ⟨some 19, some (17, true), false, .ld false 1 (.t 18)⟩,
  ⟨some 20, some (17, true), false, .lenS (.t 19)⟩,
  ⟨some 21, some (17, true), false, .call false (.c (.fn i_tremor_within [] [])) [(.t 20), (.c (.int .i64 1)), (.c (.int .i64 20))]⟩,
  ⟨some 22, none, false, .pick (.t 17) (.t 21) (.c (.bool false))⟩,
  ⟨some 23, none, false, .mv (.t 22)⟩,
  ⟨some 24, some (23, true), false, .fadr 1 (.t 1)⟩,
  ⟨some 25, some (23, true), false, .ld false 1 (.t 24)⟩,
  ⟨some 26, some (23, true), false, .idxS 2 (.t 25) (.c (.int .i64 0))⟩,
  ⟨some 27, some (23, true), false, .fadr 0 (.t 26)⟩,
  ⟨some 28, some (23, true), false, .ld false 1 (.t 27)⟩,
  ⟨some 29, some (23, true), false, .bin .eql (.t 28) (.c (.int .i64 0))⟩,
  ⟨some 30, none, false, .pick (.t 23) (.t 29) (.c (.bool false))⟩,
  ⟨some 31, none, false, .mv (.t 30)⟩,
  ⟨some 32, some (31, true), false, .fadr 1 (.t 1)⟩,
  ⟨some 33, some (31, true), false, .ld false 1 (.t 32)⟩,
  ⟨some 34, some (31, true), false, .call false (.c (.fn i_tremor_all_tremor_Row [] [])) [(.t 33), (.c (.fn i_tremor_Scale_valid_3 [] []))]⟩,
  ⟨some 35, none, false, .pick (.t 31) (.t 34) (.c (.bool false))⟩,
  ⟨some 36, none, false, .mv (.t 35)⟩,
  ⟨some 37, some (36, true), false, .fadr 1 (.t 1)⟩,
  ⟨some 38, some (36, true), false, .ld false 1 (.t 37)⟩,
  ⟨some 39, some (36, true), false, .call false (.c (.fn i_tremor_rising_tremor_Row [] [])) [(.t 38), (.c (.fn i_tremor_Scale_valid_4 [] []))]⟩,
  ⟨some 40, none, false, .pick (.t 36) (.t 39) (.c (.bool false))⟩,
  ⟨some 2, none, false, .mv (.t 40)⟩]

def a_tremor_Scale_valid : Ann := ⟨[(1, [2]), (0, [1])], [], [], [], [], [], [], []⟩
def f_tremor_Scale_valid : Abs.Fn := ⟨1, [.t 2],
  (.seq (.reg [1] f_tremor_Scale_valid_r0) (.seq (.reg [2] f_tremor_Scale_valid_r1) .ret))⟩

theorem e_tremor_Scale_valid_r0 : type_of% f_tremor_Scale_valid_r0.eq_1 := by_rfl f_tremor_Scale_valid_r0.eq_1
theorem e_tremor_Scale_valid_r1 : type_of% f_tremor_Scale_valid_r1.eq_1 := by_rfl f_tremor_Scale_valid_r1.eq_1
theorem e_tremor_Scale_valid : type_of% f_tremor_Scale_valid.eq_1 := by_rfl f_tremor_Scale_valid.eq_1
theorem ok_tremor_Scale_valid : fnC Try.prog a_tremor_Scale_valid Try.f62 = some f_tremor_Scale_valid := by kernel_rfl

/-! 63 (fumarole/tremor.Point).valid -/
def f_tremor_Point_valid_r0 : List Abs.Op := [
  ⟨some 1, none, false, .boxi (.t 0)⟩,
  ⟨some 2, none, false, .mv (.c (.bool false))⟩]

def f_tremor_Point_valid_r1 : List Abs.Op := [
  ⟨some 3, none, false, .fadr 0 (.t 1)⟩,
  ⟨some 4, none, false, .ld false 1 (.t 3)⟩,
  ⟨some 5, none, false, .fadr 1 (.t 1)⟩,
  ⟨some 6, none, false, .ld false 1 (.t 5)⟩,
  ⟨some 7, none, false, .fadr 2 (.t 1)⟩,
  ⟨some 8, none, false, .ld false 1 (.t 7)⟩,
  ⟨some 9, none, false, .bsi 3 1 [(.int .i64 0), (.int .i64 0), (.int .i64 0)] [(0, 1, (.t 4)), (1, 1, (.t 6)), (2, 1, (.t 8))]⟩,
  ⟨some 10, none, false, .call false (.c (.fn i_tremor_all_int [] [])) [(.t 9), (.c (.fn i_tremor_Point_valid_1 [] []))]⟩,
  ⟨some 2, none, false, .mv (.t 10)⟩]

def a_tremor_Point_valid : Ann := ⟨[(1, [2]), (0, [1])], [], [], [], [], [], [], []⟩
def f_tremor_Point_valid : Abs.Fn := ⟨1, [.t 2],
  (.seq (.reg [1] f_tremor_Point_valid_r0) (.seq (.reg [2] f_tremor_Point_valid_r1) .ret))⟩

theorem e_tremor_Point_valid_r0 : type_of% f_tremor_Point_valid_r0.eq_1 := by_rfl f_tremor_Point_valid_r0.eq_1
theorem e_tremor_Point_valid_r1 : type_of% f_tremor_Point_valid_r1.eq_1 := by_rfl f_tremor_Point_valid_r1.eq_1
theorem e_tremor_Point_valid : type_of% f_tremor_Point_valid.eq_1 := by_rfl f_tremor_Point_valid.eq_1
theorem ok_tremor_Point_valid : fnC Try.prog a_tremor_Point_valid Try.f63 = some f_tremor_Point_valid := by kernel_rfl

/-! 64 fumarole/tremor.within -/
def f_tremor_within_r0 : List Abs.Op := [
  ⟨some 6, none, false, .mv (.c (.bool false))⟩]

def f_tremor_within_r1 : List Abs.Op := [
  ⟨some 7, none, false, .mv (.t 1)⟩,
  ⟨some 8, none, false, .mv (.t 0)⟩,
  ⟨some 9, none, false, .bin .leq (.t 7) (.t 8)⟩,
  ⟨some 10, none, false, .mv (.t 9)⟩,
  ⟨some 11, some (10, true), false, .mv (.t 0)⟩,
  ⟨some 12, some (10, true), false, .mv (.t 2)⟩,
  ⟨some 13, some (10, true), false, .bin .leq (.t 11) (.t 12)⟩,
  ⟨some 14, none, false, .pick (.t 10) (.t 13) (.c (.bool false))⟩,
  ⟨some 6, none, false, .mv (.t 14)⟩]

def a_tremor_within : Ann := ⟨[(1, [6]), (0, [0, 1, 2])], [], [], [], [], [], [], []⟩
def f_tremor_within : Abs.Fn := ⟨3, [.t 6],
  (.seq (.reg [0, 1, 2] f_tremor_within_r0) (.seq (.reg [6] f_tremor_within_r1) .ret))⟩

theorem e_tremor_within_r0 : type_of% f_tremor_within_r0.eq_1 := by_rfl f_tremor_within_r0.eq_1
theorem e_tremor_within_r1 : type_of% f_tremor_within_r1.eq_1 := by_rfl f_tremor_within_r1.eq_1
theorem e_tremor_within : type_of% f_tremor_within.eq_1 := by_rfl f_tremor_within.eq_1
theorem ok_tremor_within : fnC Try.prog a_tremor_within Try.f64 = some f_tremor_within := by kernel_rfl

/-! 65 fumarole/tremor.all[fumarole/tremor.Reading] -/
def f_tremor_all_tremor_Reading_r0 : List Abs.Op := [
  ⟨some 3, none, false, .boxi (.t 1)⟩,
  ⟨some 4, none, false, .mv (.c (.bool false))⟩]

def f_tremor_all_tremor_Reading_r1 : List Abs.Op := [
  ⟨some 5, none, false, .mv (.t 0)⟩,
  ⟨some 6, none, false, .mkf i_tremor_all_tremor_Reading_1 [] [(.t 3)]⟩,
  ⟨some 7, none, false, .call false (.c (.fn i_slices_ContainsFunc_tremor_Reading [] [])) [(.t 5), (.t 6)]⟩,
  ⟨some 8, none, false, .un .not (.t 7)⟩,
  ⟨some 4, none, false, .mv (.t 8)⟩]

def a_tremor_all_tremor_Reading : Ann := ⟨[(1, [4]), (0, [0, 3])], [], [], [], [], [], [], []⟩
def f_tremor_all_tremor_Reading : Abs.Fn := ⟨2, [.t 4],
  (.seq (.reg [0, 3] f_tremor_all_tremor_Reading_r0) (.seq (.reg [4] f_tremor_all_tremor_Reading_r1) .ret))⟩

theorem e_tremor_all_tremor_Reading_r0 : type_of% f_tremor_all_tremor_Reading_r0.eq_1 := by_rfl f_tremor_all_tremor_Reading_r0.eq_1
theorem e_tremor_all_tremor_Reading_r1 : type_of% f_tremor_all_tremor_Reading_r1.eq_1 := by_rfl f_tremor_all_tremor_Reading_r1.eq_1
theorem e_tremor_all_tremor_Reading : type_of% f_tremor_all_tremor_Reading.eq_1 := by_rfl f_tremor_all_tremor_Reading.eq_1
theorem ok_tremor_all_tremor_Reading : fnC Try.prog a_tremor_all_tremor_Reading Try.f65 = some f_tremor_all_tremor_Reading := by kernel_rfl

/-! 66 fumarole/tremor.Magnitude$1 -/
def f_tremor_Magnitude_1_r0 : List Abs.Op := [
  ⟨some 2, none, false, .boxi (.t 0)⟩,
  ⟨some 3, none, false, .mv (.c (.bool false))⟩]

def f_tremor_Magnitude_1_r1 : List Abs.Op := [
  ⟨some 4, none, false, .ld true 12 (.t 1)⟩,
  ⟨some 5, none, false, .fadr 0 (.t 2)⟩,
  ⟨some 6, none, false, .ld false 1 (.t 5)⟩,
  ⟨some 7, none, false, .call false (.c (.fn i_tremor_Net_has [] [])) [(.t 4), (.t 6)]⟩,
  ⟨some 8, none, false, .mv (.t 7)⟩,
  ⟨some 9, some (8, true), false, .fadr 1 (.t 2)⟩,
  ⟨some 10, some (8, true), false, .ld false 1 (.t 9)⟩,
  ⟨some 11, some (8, true), false, .call false (.c (.fn i_tremor_within [] [])) [(.t 10), (.c (.int .i64 0)), (.c (.int .i64 1000000000))]⟩,
  ⟨some 12, none, false, .pick (.t 8) (.t 11) (.c (.bool false))⟩,
  ⟨some 3, none, false, .mv (.t 12)⟩]

def a_tremor_Magnitude_1 : Ann := ⟨[(1, [3]), (0, [1, 2])], [], [], [], [], [], [], []⟩
def f_tremor_Magnitude_1 : Abs.Fn := ⟨2, [.t 3],
  (.seq (.reg [1, 2] f_tremor_Magnitude_1_r0) (.seq (.reg [3] f_tremor_Magnitude_1_r1) .ret))⟩

theorem e_tremor_Magnitude_1_r0 : type_of% f_tremor_Magnitude_1_r0.eq_1 := by_rfl f_tremor_Magnitude_1_r0.eq_1
theorem e_tremor_Magnitude_1_r1 : type_of% f_tremor_Magnitude_1_r1.eq_1 := by_rfl f_tremor_Magnitude_1_r1.eq_1
theorem e_tremor_Magnitude_1 : type_of% f_tremor_Magnitude_1.eq_1 := by_rfl f_tremor_Magnitude_1.eq_1
theorem ok_tremor_Magnitude_1 : fnC Try.prog a_tremor_Magnitude_1 Try.f66 = some f_tremor_Magnitude_1 := by kernel_rfl

/-! 67 (fumarole/tremor.Net).has -/
def f_tremor_Net_has_r0 : List Abs.Op := [
  ⟨some 2, none, false, .boxi (.t 0)⟩,
  ⟨some 4, none, false, .mv (.c (.bool false))⟩]

def f_tremor_Net_has_r1 : List Abs.Op := [
  ⟨some 5, none, false, .mv (.t 1)⟩,
  ⟨some 6, none, false, .fadr 0 (.t 2)⟩,
  ⟨some 7, none, false, .ld false 1 (.t 6)⟩,
  ⟨some 8, none, false, .lenS (.t 7)⟩,
  ⟨some 9, none, false, .bin .sub (.t 8) (.c (.int .i64 1))⟩,
  ⟨some 10, none, false, .call false (.c (.fn i_tremor_within [] [])) [(.t 5), (.c (.int .i64 0)), (.t 9)]⟩,
  ⟨some 4, none, false, .mv (.t 10)⟩]

def a_tremor_Net_has : Ann := ⟨[(1, [4]), (0, [1, 2])], [], [], [], [], [], [], []⟩
def f_tremor_Net_has : Abs.Fn := ⟨2, [.t 4],
  (.seq (.reg [1, 2] f_tremor_Net_has_r0) (.seq (.reg [4] f_tremor_Net_has_r1) .ret))⟩

theorem e_tremor_Net_has_r0 : type_of% f_tremor_Net_has_r0.eq_1 := by_rfl f_tremor_Net_has_r0.eq_1
theorem e_tremor_Net_has_r1 : type_of% f_tremor_Net_has_r1.eq_1 := by_rfl f_tremor_Net_has_r1.eq_1
theorem e_tremor_Net_has : type_of% f_tremor_Net_has.eq_1 := by_rfl f_tremor_Net_has.eq_1
theorem ok_tremor_Net_has : fnC Try.prog a_tremor_Net_has Try.f67 = some f_tremor_Net_has := by kernel_rfl

/-! 68 (fumarole/tremor.Scale).of -/
def f_tremor_Scale_of_r0 : List Abs.Op := [
  ⟨some 3, none, false, .boxi (.t 0)⟩,
  ⟨some 6, none, false, .mv (.c (.int .i64 0))⟩]

def f_tremor_Scale_of_r1 : List Abs.Op := [
  ⟨some 7, none, false, .mv (.c (.int .i64 0))⟩]

def f_tremor_Scale_of_r2 : List Abs.Op := [
  ⟨some 11, none, false, .mv (.t 7)⟩,
  ⟨some 12, none, false, .fadr 0 (.t 3)⟩,
  ⟨some 13, none, false, .ld false 1 (.t 12)⟩,
  ⟨some 14, none, false, .lenS (.t 13)⟩,
  ⟨some 15, none, false, .bin .lss (.t 11) (.t 14)⟩,
  ⟨some 16, none, false, .mv (.t 15)⟩,
  ⟨some 17, some (16, true), false, .fadr 0 (.t 3)⟩,
  ⟨some 18, some (16, true), false, .ld false 1 (.t 17)⟩,
  ⟨some 19, some (16, true), false, .mv (.t 7)⟩,
  ⟨some 20, some (16, true), false, .idxS 1 (.t 18) (.t 19)⟩,
  ⟨some 21, some (16, true), false, .ld false 1 (.t 20)⟩,
  ⟨some 22, some (16, true), false, .mv (.t 1)⟩,
  ⟨some 23, some (16, true), false, .bin .leq (.t 21) (.t 22)⟩,
  ⟨some 24, none, false, .pick (.t 16) (.t 23) (.c (.bool false))⟩]

def f_tremor_Scale_of_r3 : List Abs.Op := [
  ⟨some 25, none, false, .mv (.t 7)⟩,
  ⟨some 26, none, false, .bin .add (.t 25) (.c (.int .i64 1))⟩,
  ⟨some 7, none, false, .mv (.t 26)⟩]

def f_tremor_Scale_of_l4 : Abs.Cmd :=
  (.seq (.seq (.reg [1, 2, 3, 7, 24] f_tremor_Scale_of_r2) (.ite (.t 24) .nop (.exit 0))) (.blk 1 (.reg [1, 2, 3, 7] f_tremor_Scale_of_r3)))

def f_tremor_Scale_of_r5 : List Abs.Op := [
  ⟨some 8, none, false, .mv (.c (.int .i64 0))⟩]

def f_tremor_Scale_of_r6 : List Abs.Op := [
  ⟨some 27, none, false, .fadr 1 (.t 3)⟩,
  ⟨some 28, none, false, .ld false 1 (.t 27)⟩,
  ⟨some 29, none, false, .lenS (.t 28)⟩,
  ⟨some 30, none, false, .mv (.c (.int .i64 0))⟩]

def f_tremor_Scale_of_r7 : List Abs.Op := [
  ⟨some 31, none, false, .bin .lss (.t 30) (.t 29)⟩]

def f_tremor_Scale_of_r8 : List Abs.Op := [
  ⟨some 32, none, false, .idxS 2 (.t 28) (.t 30)⟩,
  ⟨some 33, none, false, .ld true 2 (.t 32)⟩,
  ⟨some 10, none, false, .alcv [] [(.int .i64 0), (.int .i64 0)]⟩,
  ⟨none, none, false, .stv 10 [] 2 10 (.t 33)⟩]

def f_tremor_Scale_of_r9 : List Abs.Op := [
  ⟨some 34, none, false, .fadr 0 (.t 10)⟩,
  ⟨some 35, none, false, .ldv 10 false 1 34⟩,
  ⟨some 36, none, false, .mv (.t 2)⟩,
  ⟨some 37, none, false, .bin .leq (.t 35) (.t 36)⟩]

def f_tremor_Scale_of_r10 : List Abs.Op := [
  ⟨some 38, none, false, .fadr 1 (.t 10)⟩,
  ⟨some 39, none, false, .ldv 10 false 1 38⟩,
  ⟨some 8, none, false, .mv (.t 39)⟩]

def f_tremor_Scale_of_r11 : List Abs.Op := [
  ⟨some 40, none, false, .bin .add (.t 30) (.c (.int .i64 1))⟩,
  ⟨some 30, none, false, .mv (.t 40)⟩]

def f_tremor_Scale_of_l12 : Abs.Cmd :=
  (.seq (.reg [2, 7, 8, 28, 29, 30, 31] f_tremor_Scale_of_r7) (.seq (.ite (.t 31) .nop (.exit 2)) (.seq (.blk 3 (.seq (.reg [2, 7, 8, 10, 28, 29, 30] f_tremor_Scale_of_r8) (.seq (.reg [2, 7, 8, 10, 28, 29, 30, 37] f_tremor_Scale_of_r9) (.ite (.t 37) (.reg [2, 7, 8, 28, 29, 30] f_tremor_Scale_of_r10) .nop)))) (.reg [2, 7, 8, 28, 29, 30] f_tremor_Scale_of_r11))))

def f_tremor_Scale_of_r13 : List Abs.Op := [
  ⟨some 41, none, false, .mv (.t 7)⟩,
  ⟨some 42, none, false, .mv (.t 8)⟩,
  ⟨some 43, none, false, .bin .add (.t 41) (.t 42)⟩,
  ⟨some 6, none, false, .mv (.t 43)⟩]

def a_tremor_Scale_of : Ann := ⟨[(11, [6]), (10, [2, 7, 8, 28, 29, 30]), (9, [2, 7, 8, 28, 29, 30]), (8, [2, 7, 8, 10, 28, 29, 30, 37]), (7, [2, 7, 8, 10, 28, 29, 30]), (6, [2, 7, 8, 28, 29, 30, 31]), (5, [2, 7, 8, 28, 29, 30]), (4, [2, 3, 7, 8]), (3, [1, 2, 3, 7]), (2, [1, 2, 3, 7, 24]), (1, [1, 2, 3, 7]), (0, [1, 2, 3])], [(2, [2, 7, 8, 28, 29, 30]), (0, [1, 2, 3, 7])], [], [10], [10], [], [], []⟩
def f_tremor_Scale_of : Abs.Fn := ⟨3, [.t 6],
  (.seq (.reg [1, 2, 3] f_tremor_Scale_of_r0) (.seq (.reg [1, 2, 3, 7] f_tremor_Scale_of_r1) (.seq (.blk 0 (.loop [1, 2, 3, 7] false f_tremor_Scale_of_l4)) (.seq (.reg [2, 3, 7, 8] f_tremor_Scale_of_r5) (.seq (.seq (.reg [2, 7, 8, 28, 29, 30] f_tremor_Scale_of_r6) (.blk 2 (.loop [2, 7, 8, 28, 29, 30] false f_tremor_Scale_of_l12))) (.seq (.reg [6] f_tremor_Scale_of_r13) .ret))))))⟩

theorem e_tremor_Scale_of_r0 : type_of% f_tremor_Scale_of_r0.eq_1 := by_rfl f_tremor_Scale_of_r0.eq_1
theorem e_tremor_Scale_of_r1 : type_of% f_tremor_Scale_of_r1.eq_1 := by_rfl f_tremor_Scale_of_r1.eq_1
theorem e_tremor_Scale_of_r2 : type_of% f_tremor_Scale_of_r2.eq_1 := by_rfl f_tremor_Scale_of_r2.eq_1
theorem e_tremor_Scale_of_r3 : type_of% f_tremor_Scale_of_r3.eq_1 := by_rfl f_tremor_Scale_of_r3.eq_1
theorem e_tremor_Scale_of_l4 : type_of% f_tremor_Scale_of_l4.eq_1 := by_rfl f_tremor_Scale_of_l4.eq_1
theorem e_tremor_Scale_of_r5 : type_of% f_tremor_Scale_of_r5.eq_1 := by_rfl f_tremor_Scale_of_r5.eq_1
theorem e_tremor_Scale_of_r6 : type_of% f_tremor_Scale_of_r6.eq_1 := by_rfl f_tremor_Scale_of_r6.eq_1
theorem e_tremor_Scale_of_r7 : type_of% f_tremor_Scale_of_r7.eq_1 := by_rfl f_tremor_Scale_of_r7.eq_1
theorem e_tremor_Scale_of_r8 : type_of% f_tremor_Scale_of_r8.eq_1 := by_rfl f_tremor_Scale_of_r8.eq_1
theorem e_tremor_Scale_of_r9 : type_of% f_tremor_Scale_of_r9.eq_1 := by_rfl f_tremor_Scale_of_r9.eq_1
theorem e_tremor_Scale_of_r10 : type_of% f_tremor_Scale_of_r10.eq_1 := by_rfl f_tremor_Scale_of_r10.eq_1
theorem e_tremor_Scale_of_r11 : type_of% f_tremor_Scale_of_r11.eq_1 := by_rfl f_tremor_Scale_of_r11.eq_1
theorem e_tremor_Scale_of_l12 : type_of% f_tremor_Scale_of_l12.eq_1 := by_rfl f_tremor_Scale_of_l12.eq_1
theorem e_tremor_Scale_of_r13 : type_of% f_tremor_Scale_of_r13.eq_1 := by_rfl f_tremor_Scale_of_r13.eq_1
theorem e_tremor_Scale_of : type_of% f_tremor_Scale_of.eq_1 := by_rfl f_tremor_Scale_of.eq_1
theorem ok_tremor_Scale_of : fnC Try.prog a_tremor_Scale_of Try.f68 = some f_tremor_Scale_of := by kernel_rfl

/-! 69 (fumarole/tremor.Point).far -/
def f_tremor_Point_far_r0 : List Abs.Op := [
  ⟨some 2, none, false, .boxi (.t 0)⟩,
  ⟨some 3, none, false, .boxi (.t 1)⟩,
  ⟨some 4, none, false, .mv (.c (.int .i64 0))⟩]

def f_tremor_Point_far_r1 : List Abs.Op := [
  ⟨some 12, none, true, .fadr 0 (.t 2)⟩,
  ⟨some 13, none, true, .ld false 1 (.t 12)⟩,
  ⟨some 14, none, true, .fadr 0 (.t 3)⟩,
  ⟨some 15, none, true, .ld false 1 (.t 14)⟩,
  ⟨some 16, none, true, .bin .sub (.t 13) (.t 15)⟩,
  ⟨some 17, none, true, .fadr 1 (.t 2)⟩,
  ⟨some 18, none, true, .ld false 1 (.t 17)⟩,
  ⟨some 19, none, true, .fadr 1 (.t 3)⟩,
  ⟨some 20, none, true, .ld false 1 (.t 19)⟩,
  ⟨some 21, none, true, .bin .sub (.t 18) (.t 20)⟩,
  ⟨some 22, none, true, .fadr 2 (.t 2)⟩,
  ⟨some 23, none, true, .ld false 1 (.t 22)⟩,
  ⟨some 24, none, true, .fadr 2 (.t 3)⟩,
  ⟨some 25, none, true, .ld false 1 (.t 24)⟩,
  ⟨some 26, none, true, .bin .sub (.t 23) (.t 25)⟩,
  ⟨some 5, none, true, .mv (.t 16)⟩,
  ⟨some 6, none, true, .mv (.t 21)⟩,
  ⟨some 7, none, false, .mv (.t 26)⟩]

def f_tremor_Point_far_r2 : List Abs.Op := [
  ⟨some 27, none, false, .mv (.t 5)⟩,
  ⟨some 28, none, false, .mv (.t 5)⟩,
  ⟨some 29, none, false, .bin .mul (.t 27) (.t 28)⟩,
  ⟨some 30, none, false, .mv (.t 6)⟩,
  ⟨some 31, none, false, .mv (.t 6)⟩,
  ⟨some 32, none, false, .bin .mul (.t 30) (.t 31)⟩,
  ⟨some 33, none, false, .bin .add (.t 29) (.t 32)⟩,
  ⟨some 34, none, false, .mv (.t 7)⟩,
  ⟨some 35, none, false, .mv (.t 7)⟩,
  ⟨some 36, none, false, .bin .mul (.t 34) (.t 35)⟩,
  ⟨some 37, none, false, .bin .add (.t 33) (.t 36)⟩,
  ⟨some 8, none, false, .mv (.t 37)⟩]

def f_tremor_Point_far_r3 : List Abs.Op := [
  ⟨some 9, none, false, .mv (.c (.int .i64 0))⟩,
  ⟨some 10, none, false, .mv (.c (.int .i64 80000))⟩]

def f_tremor_Point_far_r4 : List Abs.Op := [
  ⟨some 38, none, false, .mv (.t 9)⟩,
  ⟨some 39, none, false, .mv (.t 10)⟩,
  ⟨some 40, none, false, .bin .lss (.t 38) (.t 39)⟩]

def f_tremor_Point_far_r5 : List Abs.Op := [
  ⟨some 41, none, false, .mv (.t 9)⟩,
  ⟨some 42, none, false, .mv (.t 10)⟩,
  ⟨some 43, none, false, .bin .add (.t 41) (.t 42)⟩,
  ⟨some 44, none, false, .bin .add (.t 43) (.c (.int .i64 1))⟩,
  ⟨some 45, none, false, .bin .quo (.t 44) (.c (.int .i64 2))⟩,
  ⟨some 11, none, false, .mv (.t 45)⟩]

def f_tremor_Point_far_r6 : List Abs.Op := [
  ⟨some 46, none, false, .mv (.t 11)⟩,
  ⟨some 47, none, false, .mv (.t 11)⟩,
  ⟨some 48, none, false, .bin .mul (.t 46) (.t 47)⟩,
  ⟨some 49, none, false, .mv (.t 8)⟩,
  ⟨some 50, none, false, .bin .gtr (.t 48) (.t 49)⟩]

def f_tremor_Point_far_r7 : List Abs.Op := [
  ⟨some 51, none, false, .mv (.t 11)⟩,
  ⟨some 52, none, false, .bin .sub (.t 51) (.c (.int .i64 1))⟩,
  ⟨some 10, none, false, .mv (.t 52)⟩]

def f_tremor_Point_far_r8 : List Abs.Op := [
  ⟨some 53, none, false, .mv (.t 11)⟩,
  ⟨some 9, none, false, .mv (.t 53)⟩]

def f_tremor_Point_far_l9 : Abs.Cmd :=
  (.seq (.seq (.reg [8, 9, 10, 40] f_tremor_Point_far_r4) (.ite (.t 40) .nop (.exit 0))) (.blk 1 (.seq (.reg [8, 9, 10, 11] f_tremor_Point_far_r5) (.seq (.reg [8, 9, 10, 11, 50] f_tremor_Point_far_r6) (.ite (.t 50) (.reg [8, 9, 10] f_tremor_Point_far_r7) (.reg [8, 9, 10] f_tremor_Point_far_r8))))))

def f_tremor_Point_far_r10 : List Abs.Op := [
  ⟨some 54, none, false, .mv (.t 9)⟩,
  ⟨some 4, none, false, .mv (.t 54)⟩]

def a_tremor_Point_far : Ann := ⟨[(9, [4]), (7, [8, 9, 10]), (8, [8, 9, 10]), (6, [8, 9, 10, 11, 50]), (5, [8, 9, 10, 11]), (4, [8, 9, 10, 40]), (3, [8, 9, 10]), (2, [8]), (1, [5, 6, 7]), (0, [2, 3])], [(0, [8, 9, 10])], [], [], [], [], [], []⟩
def f_tremor_Point_far : Abs.Fn := ⟨2, [.t 4],
  (.seq (.reg [2, 3] f_tremor_Point_far_r0) (.seq (.reg [5, 6, 7] f_tremor_Point_far_r1) (.seq (.reg [8] f_tremor_Point_far_r2) (.seq (.reg [8, 9, 10] f_tremor_Point_far_r3) (.seq (.blk 0 (.loop [8, 9, 10] false f_tremor_Point_far_l9)) (.seq (.reg [4] f_tremor_Point_far_r10) .ret))))))⟩

theorem e_tremor_Point_far_r0 : type_of% f_tremor_Point_far_r0.eq_1 := by_rfl f_tremor_Point_far_r0.eq_1
theorem e_tremor_Point_far_r1 : type_of% f_tremor_Point_far_r1.eq_1 := by_rfl f_tremor_Point_far_r1.eq_1
theorem e_tremor_Point_far_r2 : type_of% f_tremor_Point_far_r2.eq_1 := by_rfl f_tremor_Point_far_r2.eq_1
theorem e_tremor_Point_far_r3 : type_of% f_tremor_Point_far_r3.eq_1 := by_rfl f_tremor_Point_far_r3.eq_1
theorem e_tremor_Point_far_r4 : type_of% f_tremor_Point_far_r4.eq_1 := by_rfl f_tremor_Point_far_r4.eq_1
theorem e_tremor_Point_far_r5 : type_of% f_tremor_Point_far_r5.eq_1 := by_rfl f_tremor_Point_far_r5.eq_1
theorem e_tremor_Point_far_r6 : type_of% f_tremor_Point_far_r6.eq_1 := by_rfl f_tremor_Point_far_r6.eq_1
theorem e_tremor_Point_far_r7 : type_of% f_tremor_Point_far_r7.eq_1 := by_rfl f_tremor_Point_far_r7.eq_1
theorem e_tremor_Point_far_r8 : type_of% f_tremor_Point_far_r8.eq_1 := by_rfl f_tremor_Point_far_r8.eq_1
theorem e_tremor_Point_far_l9 : type_of% f_tremor_Point_far_l9.eq_1 := by_rfl f_tremor_Point_far_l9.eq_1
theorem e_tremor_Point_far_r10 : type_of% f_tremor_Point_far_r10.eq_1 := by_rfl f_tremor_Point_far_r10.eq_1
theorem e_tremor_Point_far : type_of% f_tremor_Point_far.eq_1 := by_rfl f_tremor_Point_far.eq_1
theorem ok_tremor_Point_far : fnC Try.prog a_tremor_Point_far Try.f69 = some f_tremor_Point_far := by kernel_rfl

/-! 72 fumarole/tremor.Inject$1 -/
def f_tremor_Inject_1_r0 : List Abs.Op := [
  ⟨some 2, none, false, .mv (.c (.bool false))⟩]

def f_tremor_Inject_1_r1 : List Abs.Op := [
  ⟨some 3, none, false, .mv (.t 0)⟩,
  ⟨some 4, none, false, .call false (.c (.fn i_tremor_within [] [])) [(.t 3), (.c (.int .i64 0)), (.c (.int .i64 1000000000))]⟩,
  ⟨some 2, none, false, .mv (.t 4)⟩]

def a_tremor_Inject_1 : Ann := ⟨[(1, [2]), (0, [0])], [], [], [], [], [], [], []⟩
def f_tremor_Inject_1 : Abs.Fn := ⟨1, [.t 2],
  (.seq (.reg [0] f_tremor_Inject_1_r0) (.seq (.reg [2] f_tremor_Inject_1_r1) .ret))⟩

theorem e_tremor_Inject_1_r0 : type_of% f_tremor_Inject_1_r0.eq_1 := by_rfl f_tremor_Inject_1_r0.eq_1
theorem e_tremor_Inject_1_r1 : type_of% f_tremor_Inject_1_r1.eq_1 := by_rfl f_tremor_Inject_1_r1.eq_1
theorem e_tremor_Inject_1 : type_of% f_tremor_Inject_1.eq_1 := by_rfl f_tremor_Inject_1.eq_1
theorem ok_tremor_Inject_1 : fnC Try.prog a_tremor_Inject_1 Try.f72 = some f_tremor_Inject_1 := by kernel_rfl

/-! 73 fumarole/tremor.all[int] -/
def f_tremor_all_int_r0 : List Abs.Op := [
  ⟨some 3, none, false, .boxi (.t 1)⟩,
  ⟨some 4, none, false, .mv (.c (.bool false))⟩]

def f_tremor_all_int_r1 : List Abs.Op := [
  ⟨some 5, none, false, .mv (.t 0)⟩,
  ⟨some 6, none, false, .mkf i_tremor_all_int_1 [] [(.t 3)]⟩,
  ⟨some 7, none, false, .call false (.c (.fn i_slices_ContainsFunc_int [] [])) [(.t 5), (.t 6)]⟩,
  ⟨some 8, none, false, .un .not (.t 7)⟩,
  ⟨some 4, none, false, .mv (.t 8)⟩]

def a_tremor_all_int : Ann := ⟨[(1, [4]), (0, [0, 3])], [], [], [], [], [], [], []⟩
def f_tremor_all_int : Abs.Fn := ⟨2, [.t 4],
  (.seq (.reg [0, 3] f_tremor_all_int_r0) (.seq (.reg [4] f_tremor_all_int_r1) .ret))⟩

theorem e_tremor_all_int_r0 : type_of% f_tremor_all_int_r0.eq_1 := by_rfl f_tremor_all_int_r0.eq_1
theorem e_tremor_all_int_r1 : type_of% f_tremor_all_int_r1.eq_1 := by_rfl f_tremor_all_int_r1.eq_1
theorem e_tremor_all_int : type_of% f_tremor_all_int.eq_1 := by_rfl f_tremor_all_int.eq_1
theorem ok_tremor_all_int : fnC Try.prog a_tremor_all_int Try.f73 = some f_tremor_all_int := by kernel_rfl

/-! 74 fumarole/tremor.all[uint8] -/
def f_tremor_all_uint8_r0 : List Abs.Op := [
  ⟨some 3, none, false, .boxi (.t 1)⟩,
  ⟨some 4, none, false, .mv (.c (.bool false))⟩]

def f_tremor_all_uint8_r1 : List Abs.Op := [
  ⟨some 5, none, false, .mv (.t 0)⟩,
  ⟨some 6, none, false, .mkf i_tremor_all_uint8_1 [] [(.t 3)]⟩,
  ⟨some 7, none, false, .call false (.c (.fn i_slices_ContainsFunc_uint8 [] [])) [(.t 5), (.t 6)]⟩,
  ⟨some 8, none, false, .un .not (.t 7)⟩,
  ⟨some 4, none, false, .mv (.t 8)⟩]

def a_tremor_all_uint8 : Ann := ⟨[(1, [4]), (0, [0, 3])], [], [], [], [], [], [], []⟩
def f_tremor_all_uint8 : Abs.Fn := ⟨2, [.t 4],
  (.seq (.reg [0, 3] f_tremor_all_uint8_r0) (.seq (.reg [4] f_tremor_all_uint8_r1) .ret))⟩

theorem e_tremor_all_uint8_r0 : type_of% f_tremor_all_uint8_r0.eq_1 := by_rfl f_tremor_all_uint8_r0.eq_1
theorem e_tremor_all_uint8_r1 : type_of% f_tremor_all_uint8_r1.eq_1 := by_rfl f_tremor_all_uint8_r1.eq_1
theorem e_tremor_all_uint8 : type_of% f_tremor_all_uint8.eq_1 := by_rfl f_tremor_all_uint8.eq_1
theorem ok_tremor_all_uint8 : fnC Try.prog a_tremor_all_uint8 Try.f74 = some f_tremor_all_uint8 := by kernel_rfl

/-! 75 fumarole/tremor.Inject$2 -/
def f_tremor_Inject_2_r0 : List Abs.Op := [
  ⟨some 2, none, false, .mv (.c (.bool false))⟩]

def f_tremor_Inject_2_r1 : List Abs.Op := [
  ⟨some 3, none, false, .mv (.t 0)⟩,
  ⟨some 4, none, false, .bin .leq (.t 3) (.c (.int .u8 2))⟩,
  ⟨some 2, none, false, .mv (.t 4)⟩]

def a_tremor_Inject_2 : Ann := ⟨[(1, [2]), (0, [0])], [], [], [], [], [], [], []⟩
def f_tremor_Inject_2 : Abs.Fn := ⟨1, [.t 2],
  (.seq (.reg [0] f_tremor_Inject_2_r0) (.seq (.reg [2] f_tremor_Inject_2_r1) .ret))⟩

theorem e_tremor_Inject_2_r0 : type_of% f_tremor_Inject_2_r0.eq_1 := by_rfl f_tremor_Inject_2_r0.eq_1
theorem e_tremor_Inject_2_r1 : type_of% f_tremor_Inject_2_r1.eq_1 := by_rfl f_tremor_Inject_2_r1.eq_1
theorem e_tremor_Inject_2 : type_of% f_tremor_Inject_2.eq_1 := by_rfl f_tremor_Inject_2.eq_1
theorem ok_tremor_Inject_2 : fnC Try.prog a_tremor_Inject_2 Try.f75 = some f_tremor_Inject_2 := by kernel_rfl

/-! 76 (fumarole/tremor.Net).travel -/
def f_tremor_Net_travel_r0 : List Abs.Op := [
  ⟨some 4, none, false, .boxi (.t 0)⟩,
  ⟨some 7, none, false, .boxi (.t 3)⟩,
  ⟨some 8, none, false, .alcv [] [(.int .i64 0), (.int .i64 0)]⟩]

def f_tremor_Net_travel_r1 : List Abs.Op := [
  ⟨some 11, none, true, .fadr 0 (.t 4)⟩,
  ⟨some 12, none, true, .ld false 1 (.t 11)⟩,
  ⟨some 13, none, true, .mv (.t 1)⟩,
  ⟨some 14, none, true, .idxS 4 (.t 12) (.t 13)⟩,
  ⟨some 15, none, true, .fadr 0 (.t 14)⟩,
  ⟨some 16, none, true, .ld true 3 (.t 15)⟩,
  ⟨some 17, none, true, .ld true 3 (.t 7)⟩,
  ⟨some 18, none, true, .call false (.c (.fn i_tremor_Point_far [] [])) [(.t 16), (.t 17)]⟩,
  ⟨some 19, none, true, .mv (.t 2)⟩,
  ⟨some 20, none, true, .fadr 1 (.t 4)⟩,
  ⟨some 21, none, true, .idxA 2 2 (.t 20) (.t 19)⟩,
  ⟨some 22, none, true, .ld true 2 (.t 21)⟩,
  ⟨some 10, none, true, .alcv [] [(.int .i64 0), (.int .i64 0)]⟩,
  ⟨some 9, none, true, .mv (.t 18)⟩,
  ⟨none, none, false, .stv 10 [] 2 10 (.t 22)⟩]

def f_tremor_Net_travel_r2 : List Abs.Op := [
  ⟨some 23, none, false, .fadr 0 (.t 10)⟩,
  ⟨some 24, none, false, .ldv 10 false 1 23⟩,
  ⟨some 25, none, false, .mv (.t 9)⟩,
  ⟨some 26, none, false, .bin .mul (.t 24) (.t 25)⟩,
  ⟨some 27, none, false, .bin .quo (.t 26) (.c (.int .i64 1000))⟩,
  ⟨some 28, none, false, .fadr 1 (.t 10)⟩,
  ⟨some 29, none, false, .ldv 10 false 1 28⟩,
  ⟨some 30, none, false, .mv (.t 9)⟩,
  ⟨some 31, none, false, .bin .add (.t 30) (.c (.int .i64 1))⟩,
  ⟨some 32, none, false, .bin .mul (.t 29) (.t 31)⟩,
  ⟨some 33, none, false, .bin .add (.t 32) (.c (.int .i64 1000))⟩,
  ⟨some 34, none, false, .bin .sub (.t 33) (.c (.int .i64 1))⟩,
  ⟨some 35, none, false, .bin .quo (.t 34) (.c (.int .i64 1000))⟩,
  ⟨some 36, none, false, .bld [(.int .i64 0), (.int .i64 0)] [(0, 1, (.t 27)), (1, 1, (.t 35))]⟩,
  ⟨none, none, false, .stv 8 [] 2 8 (.t 36)⟩]

def a_tremor_Net_travel : Ann := ⟨[(2, [8]), (1, [8, 9, 10]), (0, [1, 2, 4, 7, 8])], [], [], [8, 10], [8, 10], [], [], []⟩
def f_tremor_Net_travel : Abs.Fn := ⟨4, [.v 8 true 2],
  (.seq (.reg [1, 2, 4, 7, 8] f_tremor_Net_travel_r0) (.seq (.reg [8, 9, 10] f_tremor_Net_travel_r1) (.seq (.reg [8] f_tremor_Net_travel_r2) .ret)))⟩

theorem e_tremor_Net_travel_r0 : type_of% f_tremor_Net_travel_r0.eq_1 := by_rfl f_tremor_Net_travel_r0.eq_1
theorem e_tremor_Net_travel_r1 : type_of% f_tremor_Net_travel_r1.eq_1 := by_rfl f_tremor_Net_travel_r1.eq_1
theorem e_tremor_Net_travel_r2 : type_of% f_tremor_Net_travel_r2.eq_1 := by_rfl f_tremor_Net_travel_r2.eq_1
theorem e_tremor_Net_travel : type_of% f_tremor_Net_travel.eq_1 := by_rfl f_tremor_Net_travel.eq_1
theorem ok_tremor_Net_travel : fnC Try.prog a_tremor_Net_travel Try.f76 = some f_tremor_Net_travel := by kernel_rfl

/-! 77 (fumarole/tremor.Bet).valid -/
def f_tremor_Bet_valid_r0 : List Abs.Op := [
  ⟨some 1, none, false, .boxi (.t 0)⟩,
  ⟨some 2, none, false, .mv (.c (.bool false))⟩]

def f_tremor_Bet_valid_r1 : List Abs.Op := [
  ⟨some 3, none, false, .fadr 1 (.t 1)⟩,
  ⟨some 4, none, false, .ld false 1 (.t 3)⟩,
  ⟨some 5, none, false, .call false (.c (.fn i_tremor_within [] [])) [(.t 4), (.c (.int .i64 2)), (.c (.int .i64 1000))]⟩,
  ⟨some 6, none, false, .mv (.t 5)⟩,
  ⟨some 7, some (6, true), false, .fadr 0 (.t 1)⟩,
  ⟨some 8, some (6, true), false, .ld false 1 (.t 7)⟩,
  ⟨some 9, some (6, true), false, .fadr 1 (.t 1)⟩,
  ⟨some 10, some (6, true), false, .ld false 1 (.t 9)⟩,
  ⟨some 11, some (6, true), false, .bin .sub (.t 10) (.c (.int .i64 1))⟩,
  ⟨some 12, some (6, true), false, .call false (.c (.fn i_tremor_within [] [])) [(.t 8), (.c (.int .i64 1)), (.t 11)]⟩,
  ⟨some 13, none, false, .pick (.t 6) (.t 12) (.c (.bool false))⟩,
  ⟨some 14, none, false, .mv (.t 13)⟩,
  ⟨some 15, some (14, true), false, .fadr 3 (.t 1)⟩,
  ⟨some 16, some (14, true), false, .ld false 1 (.t 15)⟩,
  ⟨some 17, some (14, true), false, .call false (.c (.fn i_tremor_within [] [])) [(.t 16), (.c (.int .i64 1)), (.c (.int .i64 1000))]⟩,
  ⟨some 18, none, false, .pick (.t 14) (.t 17) (.c (.bool false))⟩,
  ⟨some 19, none, false, .mv (.t 18)⟩,
  ⟨some 20, some (19, true), false, .fadr 2 (.t 1)⟩,
  ⟨some 21, some (19, true), false, .ld false 1 (.t 20)⟩,
  ⟨some 22, some (19, true), false, .fadr 3 (.t 1)⟩,
  ⟨some 23, some (19, true), false, .ld false 1 (.t 22)⟩,
  ⟨some 24, some (19, true), false, .call false (.c (.fn i_tremor_within [] [])) [(.t 21), (.c (.int .i64 0)), (.t 23)]⟩,
  ⟨some 25, none, false, .pick (.t 19) (.t 24) (.c (.bool false))⟩,
  ⟨some 26, none, false, .mv (.t 25)⟩,
  ⟨some 27, some (26, true), false, .fadr 4 (.t 1)⟩,
  ⟨some 28, some (26, true), false, .ld false 1 (.t 27)⟩,
  ⟨some 29, some (26, true), false, .call false (.c (.fn i_tremor_within [] [])) [(.t 28), (.c (.int .i64 2)), (.c (.int .i64 1000))]⟩,
  ⟨some 30, none, false, .pick (.t 26) (.t 29) (.c (.bool false))⟩,
  ⟨some 2, none, false, .mv (.t 30)⟩]

def a_tremor_Bet_valid : Ann := ⟨[(1, [2]), (0, [1])], [], [], [], [], [], [], []⟩
def f_tremor_Bet_valid : Abs.Fn := ⟨1, [.t 2],
  (.seq (.reg [1] f_tremor_Bet_valid_r0) (.seq (.reg [2] f_tremor_Bet_valid_r1) .ret))⟩

theorem e_tremor_Bet_valid_r0 : type_of% f_tremor_Bet_valid_r0.eq_1 := by_rfl f_tremor_Bet_valid_r0.eq_1
theorem e_tremor_Bet_valid_r1 : type_of% f_tremor_Bet_valid_r1.eq_1 := by_rfl f_tremor_Bet_valid_r1.eq_1
theorem e_tremor_Bet_valid : type_of% f_tremor_Bet_valid.eq_1 := by_rfl f_tremor_Bet_valid.eq_1
theorem ok_tremor_Bet_valid : fnC Try.prog a_tremor_Bet_valid Try.f77 = some f_tremor_Bet_valid := by kernel_rfl

/-! 78 (fumarole/tremor.Bet).going -/
def f_tremor_Bet_going_r0 : List Abs.Op := [
  ⟨some 1, none, false, .boxi (.t 0)⟩,
  ⟨some 2, none, false, .mv (.c .nilf)⟩]

def f_tremor_Bet_going_r1 : List Abs.Op := [
  ⟨some 3, none, false, .alc [] [(.int .i64 0)]⟩,
  ⟨none, none, false, .st [] 1 (.t 3) (.c (.int .i64 1000000))⟩]

def f_tremor_Bet_going_r2 : List Abs.Op := [
  ⟨some 4, none, false, .mkf i_tremor_Bet_going_1 [] [(.t 3), (.t 1)]⟩,
  ⟨some 2, none, false, .mv (.t 4)⟩]

def a_tremor_Bet_going : Ann := ⟨[(2, [2]), (1, [1, 3]), (0, [1])], [], [], [3], [], [], [], []⟩
def f_tremor_Bet_going : Abs.Fn := ⟨1, [.t 2],
  (.seq (.reg [1] f_tremor_Bet_going_r0) (.seq (.reg [1, 3] f_tremor_Bet_going_r1) (.seq (.reg [2] f_tremor_Bet_going_r2) .ret)))⟩

theorem e_tremor_Bet_going_r0 : type_of% f_tremor_Bet_going_r0.eq_1 := by_rfl f_tremor_Bet_going_r0.eq_1
theorem e_tremor_Bet_going_r1 : type_of% f_tremor_Bet_going_r1.eq_1 := by_rfl f_tremor_Bet_going_r1.eq_1
theorem e_tremor_Bet_going_r2 : type_of% f_tremor_Bet_going_r2.eq_1 := by_rfl f_tremor_Bet_going_r2.eq_1
theorem e_tremor_Bet_going : type_of% f_tremor_Bet_going.eq_1 := by_rfl f_tremor_Bet_going.eq_1
theorem ok_tremor_Bet_going : fnC Try.prog a_tremor_Bet_going Try.f78 = some f_tremor_Bet_going := by kernel_rfl

/-! 79 slices.IndexFunc[[]int,int] -/
def f_slices_IndexFunc_int_r0 : List Abs.Op := [
  ⟨some 4, none, false, .mv (.c (.int .i64 0))⟩]

def f_slices_IndexFunc_int_r1 : List Abs.Op := [
  ⟨some 6, none, false, .mv (.t 0)⟩,
  ⟨some 7, none, false, .lenS (.t 6)⟩,
  ⟨some 8, none, false, .mv (.c (.int .i64 0))⟩]

def f_slices_IndexFunc_int_r2 : List Abs.Op := [
  ⟨some 9, none, false, .bin .lss (.t 8) (.t 7)⟩]

def f_slices_IndexFunc_int_r3 : List Abs.Op := [
  ⟨some 10, none, false, .mv (.t 8)⟩,
  ⟨some 5, none, false, .mv (.t 10)⟩]

def f_slices_IndexFunc_int_r4 : List Abs.Op := [
  ⟨some 11, none, false, .mv (.t 1)⟩,
  ⟨some 12, none, false, .mv (.t 0)⟩,
  ⟨some 13, none, false, .mv (.t 5)⟩,
  ⟨some 14, none, false, .idxS 1 (.t 12) (.t 13)⟩,
  ⟨some 15, none, false, .ld false 1 (.t 14)⟩,
  ⟨some 16, none, false, .call false (.t 11) [(.t 15)]⟩]

def f_slices_IndexFunc_int_r5 : List Abs.Op := [
  ⟨some 17, none, false, .mv (.t 5)⟩,
  ⟨some 4, none, false, .mv (.t 17)⟩]

def f_slices_IndexFunc_int_r6 : List Abs.Op := [
  ⟨some 18, none, false, .bin .add (.t 8) (.c (.int .i64 1))⟩,
  ⟨some 8, none, false, .mv (.t 18)⟩]

def f_slices_IndexFunc_int_l7 : Abs.Cmd :=
  (.seq (.reg [0, 1, 7, 8, 9] f_slices_IndexFunc_int_r2) (.seq (.ite (.t 9) .nop (.exit 0)) (.seq (.blk 1 (.seq (.reg [0, 1, 5, 7, 8] f_slices_IndexFunc_int_r3) (.seq (.reg [0, 1, 5, 7, 8, 16] f_slices_IndexFunc_int_r4) (.ite (.t 16) (.seq (.reg [4] f_slices_IndexFunc_int_r5) .ret) .nop)))) (.reg [0, 1, 7, 8] f_slices_IndexFunc_int_r6))))

def f_slices_IndexFunc_int_r8 : List Abs.Op := [
  ⟨some 4, none, false, .mv (.c (.int .i64 (-1)))⟩]

def a_slices_IndexFunc_int : Ann := ⟨[(7, [4]), (6, [0, 1, 7, 8]), (5, [4]), (4, [0, 1, 5, 7, 8, 16]), (3, [0, 1, 5, 7, 8]), (2, [0, 1, 7, 8, 9]), (1, [0, 1, 7, 8]), (0, [0, 1])], [(0, [0, 1, 7, 8])], [], [], [], [], [], []⟩
def f_slices_IndexFunc_int : Abs.Fn := ⟨2, [.t 4],
  (.seq (.reg [0, 1] f_slices_IndexFunc_int_r0) (.seq (.seq (.reg [0, 1, 7, 8] f_slices_IndexFunc_int_r1) (.blk 0 (.loop [0, 1, 7, 8] false f_slices_IndexFunc_int_l7))) (.seq (.reg [4] f_slices_IndexFunc_int_r8) .ret)))⟩

theorem e_slices_IndexFunc_int_r0 : type_of% f_slices_IndexFunc_int_r0.eq_1 := by_rfl f_slices_IndexFunc_int_r0.eq_1
theorem e_slices_IndexFunc_int_r1 : type_of% f_slices_IndexFunc_int_r1.eq_1 := by_rfl f_slices_IndexFunc_int_r1.eq_1
theorem e_slices_IndexFunc_int_r2 : type_of% f_slices_IndexFunc_int_r2.eq_1 := by_rfl f_slices_IndexFunc_int_r2.eq_1
theorem e_slices_IndexFunc_int_r3 : type_of% f_slices_IndexFunc_int_r3.eq_1 := by_rfl f_slices_IndexFunc_int_r3.eq_1
theorem e_slices_IndexFunc_int_r4 : type_of% f_slices_IndexFunc_int_r4.eq_1 := by_rfl f_slices_IndexFunc_int_r4.eq_1
theorem e_slices_IndexFunc_int_r5 : type_of% f_slices_IndexFunc_int_r5.eq_1 := by_rfl f_slices_IndexFunc_int_r5.eq_1
theorem e_slices_IndexFunc_int_r6 : type_of% f_slices_IndexFunc_int_r6.eq_1 := by_rfl f_slices_IndexFunc_int_r6.eq_1
theorem e_slices_IndexFunc_int_l7 : type_of% f_slices_IndexFunc_int_l7.eq_1 := by_rfl f_slices_IndexFunc_int_l7.eq_1
theorem e_slices_IndexFunc_int_r8 : type_of% f_slices_IndexFunc_int_r8.eq_1 := by_rfl f_slices_IndexFunc_int_r8.eq_1
theorem e_slices_IndexFunc_int : type_of% f_slices_IndexFunc_int.eq_1 := by_rfl f_slices_IndexFunc_int.eq_1
theorem ok_slices_IndexFunc_int : fnC Try.prog a_slices_IndexFunc_int Try.f79 = some f_slices_IndexFunc_int := by kernel_rfl

/-! 80 fumarole/tremor.Won$1 -/
def f_tremor_Won_1_r0 : List Abs.Op := [
  ⟨some 3, none, false, .mv (.c (.bool false))⟩]

def f_tremor_Won_1_r1 : List Abs.Op := [
  ⟨some 4, none, false, .mv (.t 0)⟩,
  ⟨some 5, none, false, .fadr 4 (.t 1)⟩,
  ⟨some 6, none, false, .ld false 1 (.t 5)⟩,
  ⟨some 7, none, false, .bin .mul (.c (.int .i64 1000000)) (.t 6)⟩,
  ⟨some 8, none, false, .bin .geq (.t 4) (.t 7)⟩,
  ⟨some 3, none, false, .mv (.t 8)⟩]

def a_tremor_Won_1 : Ann := ⟨[(1, [3]), (0, [0, 1])], [], [], [], [], [], [], []⟩
def f_tremor_Won_1 : Abs.Fn := ⟨2, [.t 3],
  (.seq (.reg [0, 1] f_tremor_Won_1_r0) (.seq (.reg [3] f_tremor_Won_1_r1) .ret))⟩

theorem e_tremor_Won_1_r0 : type_of% f_tremor_Won_1_r0.eq_1 := by_rfl f_tremor_Won_1_r0.eq_1
theorem e_tremor_Won_1_r1 : type_of% f_tremor_Won_1_r1.eq_1 := by_rfl f_tremor_Won_1_r1.eq_1
theorem e_tremor_Won_1 : type_of% f_tremor_Won_1.eq_1 := by_rfl f_tremor_Won_1.eq_1
theorem ok_tremor_Won_1 : fnC Try.prog a_tremor_Won_1 Try.f80 = some f_tremor_Won_1 := by kernel_rfl

/-! 82 (fumarole/tremor.Net).lattice -/
def f_tremor_Net_lattice_r0 : List Abs.Op := [
  ⟨some 1, none, false, .boxi (.t 0)⟩,
  ⟨some 2, none, false, .mv (.c .nilf)⟩]

def f_tremor_Net_lattice_r1 : List Abs.Op := [
  ⟨some 3, none, false, .mkf i_tremor_Net_lattice_1 [] [(.t 1)]⟩,
  ⟨some 2, none, false, .mv (.t 3)⟩]

def a_tremor_Net_lattice : Ann := ⟨[(1, [2]), (0, [1])], [], [], [], [], [], [], []⟩
def f_tremor_Net_lattice : Abs.Fn := ⟨1, [.t 2],
  (.seq (.reg [1] f_tremor_Net_lattice_r0) (.seq (.reg [2] f_tremor_Net_lattice_r1) .ret))⟩

theorem e_tremor_Net_lattice_r0 : type_of% f_tremor_Net_lattice_r0.eq_1 := by_rfl f_tremor_Net_lattice_r0.eq_1
theorem e_tremor_Net_lattice_r1 : type_of% f_tremor_Net_lattice_r1.eq_1 := by_rfl f_tremor_Net_lattice_r1.eq_1
theorem e_tremor_Net_lattice : type_of% f_tremor_Net_lattice.eq_1 := by_rfl f_tremor_Net_lattice.eq_1
theorem ok_tremor_Net_lattice : fnC Try.prog a_tremor_Net_lattice Try.f82 = some f_tremor_Net_lattice := by kernel_rfl

/-! 83 (fumarole/tremor.heard).spans -/
def f_tremor_heard_spans_r0 : List Abs.Op := [
  ⟨some 3, none, false, .boxi (.t 0)⟩,
  ⟨some 4, none, false, .boxi (.t 1)⟩,
  ⟨some 6, none, false, .nilb 2⟩]

def f_tremor_heard_spans_r1 : List Abs.Op := [
  ⟨some 8, none, false, .fadr 12 (.t 3)⟩,
  ⟨some 9, none, false, .ld false 1 (.t 8)⟩,
  ⟨some 10, none, false, .mv (.t 2)⟩,
  ⟨some 11, none, false, .slc 4 (.t 9) none (some (.t 10)) none⟩,
  ⟨some 12, none, false, .lenS (.t 11)⟩,
  ⟨some 13, none, false, .mv (.c (.int .i64 0))⟩]

def f_tremor_heard_spans_r2 : List Abs.Op := [
  ⟨some 14, none, false, .bin .lss (.t 13) (.t 12)⟩]

def f_tremor_heard_spans_r3 : List Abs.Op := [
  ⟨some 15, none, false, .mv (.t 13)⟩,
  ⟨some 7, none, false, .mv (.t 15)⟩]

def f_tremor_heard_spans_r4 : List Abs.Op := [
  ⟨some 16, none, false, .mv (.t 6)⟩,
  ⟨some 17, none, false, .ld true 13 (.t 3)⟩,
  ⟨some 18, none, false, .ld true 3 (.t 4)⟩,
  ⟨some 19, none, false, .mv (.t 7)⟩,
  ⟨some 20, none, false, .call false (.c (.fn i_tremor_heard_span [] [])) [(.t 17), (.t 18), (.t 19)]⟩,
  ⟨some 21, none, false, .bsi 1 2 [(.int .i64 0), (.int .i64 0)] [(0, 2, (.t 20))]⟩,
  ⟨some 22, none, false, .app 2 16 (.t 16) (.t 21)⟩,
  ⟨some 6, none, false, .mv (.t 22)⟩]

def f_tremor_heard_spans_r5 : List Abs.Op := [
  ⟨some 23, none, false, .bin .add (.t 13) (.c (.int .i64 1))⟩,
  ⟨some 13, none, false, .mv (.t 23)⟩]

def f_tremor_heard_spans_l6 : Abs.Cmd :=
  (.seq (.reg [3, 4, 6, 12, 13, 14] f_tremor_heard_spans_r2) (.seq (.ite (.t 14) .nop (.exit 0)) (.seq (.blk 1 (.seq (.reg [3, 4, 6, 7, 12, 13] f_tremor_heard_spans_r3) (.reg [3, 4, 6, 12, 13] f_tremor_heard_spans_r4))) (.reg [3, 4, 6, 12, 13] f_tremor_heard_spans_r5))))

def f_tremor_heard_spans_r7 : List Abs.Op := [
  ⟨some 24, none, false, .mv (.t 6)⟩,
  ⟨some 6, none, false, .mv (.t 24)⟩]

def a_tremor_heard_spans : Ann := ⟨[(6, [6]), (5, [3, 4, 6, 12, 13]), (4, [3, 4, 6, 12, 13]), (3, [3, 4, 6, 7, 12, 13]), (2, [3, 4, 6, 12, 13, 14]), (1, [3, 4, 6, 12, 13]), (0, [2, 3, 4, 6])], [(0, [3, 4, 6, 12, 13])], [], [6], [], [], [], []⟩
def f_tremor_heard_spans : Abs.Fn := ⟨3, [.t 6],
  (.seq (.reg [2, 3, 4, 6] f_tremor_heard_spans_r0) (.seq (.seq (.reg [3, 4, 6, 12, 13] f_tremor_heard_spans_r1) (.blk 0 (.loop [3, 4, 6, 12, 13] false f_tremor_heard_spans_l6))) (.seq (.reg [6] f_tremor_heard_spans_r7) .ret)))⟩

theorem e_tremor_heard_spans_r0 : type_of% f_tremor_heard_spans_r0.eq_1 := by_rfl f_tremor_heard_spans_r0.eq_1
theorem e_tremor_heard_spans_r1 : type_of% f_tremor_heard_spans_r1.eq_1 := by_rfl f_tremor_heard_spans_r1.eq_1
theorem e_tremor_heard_spans_r2 : type_of% f_tremor_heard_spans_r2.eq_1 := by_rfl f_tremor_heard_spans_r2.eq_1
theorem e_tremor_heard_spans_r3 : type_of% f_tremor_heard_spans_r3.eq_1 := by_rfl f_tremor_heard_spans_r3.eq_1
theorem e_tremor_heard_spans_r4 : type_of% f_tremor_heard_spans_r4.eq_1 := by_rfl f_tremor_heard_spans_r4.eq_1
theorem e_tremor_heard_spans_r5 : type_of% f_tremor_heard_spans_r5.eq_1 := by_rfl f_tremor_heard_spans_r5.eq_1
theorem e_tremor_heard_spans_l6 : type_of% f_tremor_heard_spans_l6.eq_1 := by_rfl f_tremor_heard_spans_l6.eq_1
theorem e_tremor_heard_spans_r7 : type_of% f_tremor_heard_spans_r7.eq_1 := by_rfl f_tremor_heard_spans_r7.eq_1
theorem e_tremor_heard_spans : type_of% f_tremor_heard_spans.eq_1 := by_rfl f_tremor_heard_spans.eq_1
theorem ok_tremor_heard_spans : fnC Try.prog a_tremor_heard_spans Try.f83 = some f_tremor_heard_spans := by kernel_rfl

/-! 84 fumarole/tremor.common -/
def f_tremor_common_r0 : List Abs.Op := [
  ⟨some 2, none, false, .alcv [] [(.int .i64 0), (.int .i64 0)]⟩,
  ⟨some 3, none, false, .mv (.c (.bool false))⟩]

def f_tremor_common_r1 : List Abs.Op := [
  ⟨some 7, none, false, .mv (.t 0)⟩,
  ⟨some 8, none, false, .idxS 2 (.t 7) (.c (.int .i64 0))⟩,
  ⟨some 9, none, false, .ld true 2 (.t 8)⟩,
  ⟨some 4, none, false, .alcv [] [(.int .i64 0), (.int .i64 0)]⟩,
  ⟨none, none, false, .stv 4 [] 2 4 (.t 9)⟩]

def f_tremor_common_r2 : List Abs.Op := [
  ⟨some 10, none, false, .mv (.t 0)⟩,
  ⟨some 11, none, false, .slc 2 (.t 10) (some (.c (.int .i64 1))) none none⟩,
  ⟨some 12, none, false, .lenS (.t 11)⟩,
  ⟨some 13, none, false, .mv (.c (.int .i64 0))⟩]

def f_tremor_common_r3 : List Abs.Op := [
  ⟨some 14, none, false, .bin .lss (.t 13) (.t 12)⟩]

def f_tremor_common_r4 : List Abs.Op := [
  ⟨some 15, none, false, .idxS 2 (.t 11) (.t 13)⟩,
  ⟨some 16, none, false, .ld true 2 (.t 15)⟩,
  ⟨some 6, none, false, .alcv [] [(.int .i64 0), (.int .i64 0)]⟩,
  ⟨none, none, false, .stv 6 [] 2 6 (.t 16)⟩]

def f_tremor_common_r5 : List Abs.Op := [
  ⟨some 17, none, false, .fadr 0 (.t 4)⟩,
  ⟨some 18, none, false, .ldv 4 false 1 17⟩,
  ⟨some 19, none, false, .fadr 0 (.t 6)⟩,
  ⟨some 20, none, false, .ldv 6 false 1 19⟩,
  ⟨some 21, none, false, .mx (.t 18) (.t 20)⟩,
  ⟨some 22, none, false, .fadr 1 (.t 4)⟩,
  ⟨some 23, none, false, .ldv 4 false 1 22⟩,
  ⟨some 24, none, false, .fadr 1 (.t 6)⟩,
  ⟨some 25, none, false, .ldv 6 false 1 24⟩,
  ⟨some 26, none, false, .mn (.t 23) (.t 25)⟩,
  ⟨some 27, none, false, .bld [(.int .i64 0), (.int .i64 0)] [(0, 1, (.t 21)), (1, 1, (.t 26))]⟩,
  ⟨none, none, false, .stv 4 [] 2 4 (.t 27)⟩]

def f_tremor_common_r6 : List Abs.Op := [
  ⟨some 28, none, false, .bin .add (.t 13) (.c (.int .i64 1))⟩,
  ⟨some 13, none, false, .mv (.t 28)⟩]

def f_tremor_common_l7 : Abs.Cmd :=
  (.seq (.reg [2, 4, 11, 12, 13, 14] f_tremor_common_r3) (.seq (.ite (.t 14) .nop (.exit 0)) (.seq (.blk 1 (.seq (.reg [2, 4, 6, 11, 12, 13] f_tremor_common_r4) (.reg [2, 4, 11, 12, 13] f_tremor_common_r5))) (.reg [2, 4, 11, 12, 13] f_tremor_common_r6))))

def f_tremor_common_r8 : List Abs.Op := [
  ⟨some 29, none, true, .ldv 4 true 2 4⟩,
  ⟨some 30, none, true, .fadr 0 (.t 4)⟩,
  ⟨some 31, none, true, .ldv 4 false 1 30⟩,
  ⟨some 32, none, true, .fadr 1 (.t 4)⟩,
  ⟨some 33, none, true, .ldv 4 false 1 32⟩,
  ⟨some 34, none, true, .bin .leq (.t 31) (.t 33)⟩,
  ⟨none, none, true, .stv 2 [] 2 2 (.t 29)⟩,
  ⟨some 3, none, false, .mv (.t 34)⟩]

def a_tremor_common : Ann := ⟨[(7, [2, 3]), (6, [2, 4, 11, 12, 13]), (5, [2, 4, 11, 12, 13]), (4, [2, 4, 6, 11, 12, 13]), (3, [2, 4, 11, 12, 13, 14]), (2, [2, 4, 11, 12, 13]), (1, [0, 2, 4]), (0, [0, 2])], [(0, [2, 4, 11, 12, 13])], [], [2, 4, 6], [2, 4, 6], [], [], []⟩
def f_tremor_common : Abs.Fn := ⟨1, [.v 2 true 2, .t 3],
  (.seq (.reg [0, 2] f_tremor_common_r0) (.seq (.reg [0, 2, 4] f_tremor_common_r1) (.seq (.seq (.reg [2, 4, 11, 12, 13] f_tremor_common_r2) (.blk 0 (.loop [2, 4, 11, 12, 13] false f_tremor_common_l7))) (.seq (.reg [2, 3] f_tremor_common_r8) .ret))))⟩

theorem e_tremor_common_r0 : type_of% f_tremor_common_r0.eq_1 := by_rfl f_tremor_common_r0.eq_1
theorem e_tremor_common_r1 : type_of% f_tremor_common_r1.eq_1 := by_rfl f_tremor_common_r1.eq_1
theorem e_tremor_common_r2 : type_of% f_tremor_common_r2.eq_1 := by_rfl f_tremor_common_r2.eq_1
theorem e_tremor_common_r3 : type_of% f_tremor_common_r3.eq_1 := by_rfl f_tremor_common_r3.eq_1
theorem e_tremor_common_r4 : type_of% f_tremor_common_r4.eq_1 := by_rfl f_tremor_common_r4.eq_1
theorem e_tremor_common_r5 : type_of% f_tremor_common_r5.eq_1 := by_rfl f_tremor_common_r5.eq_1
theorem e_tremor_common_r6 : type_of% f_tremor_common_r6.eq_1 := by_rfl f_tremor_common_r6.eq_1
theorem e_tremor_common_l7 : type_of% f_tremor_common_l7.eq_1 := by_rfl f_tremor_common_l7.eq_1
theorem e_tremor_common_r8 : type_of% f_tremor_common_r8.eq_1 := by_rfl f_tremor_common_r8.eq_1
theorem e_tremor_common : type_of% f_tremor_common.eq_1 := by_rfl f_tremor_common.eq_1
theorem ok_tremor_common : fnC Try.prog a_tremor_common Try.f84 = some f_tremor_common := by kernel_rfl

/-! 85 slices.IndexFunc[[]fumarole/tremor.Range,fumarole/tremor.Range] -/
def f_slices_IndexFunc_tremor_Range_r0 : List Abs.Op := [
  ⟨some 4, none, false, .mv (.c (.int .i64 0))⟩]

def f_slices_IndexFunc_tremor_Range_r1 : List Abs.Op := [
  ⟨some 6, none, false, .mv (.t 0)⟩,
  ⟨some 7, none, false, .lenS (.t 6)⟩,
  ⟨some 8, none, false, .mv (.c (.int .i64 0))⟩]

def f_slices_IndexFunc_tremor_Range_r2 : List Abs.Op := [
  ⟨some 9, none, false, .bin .lss (.t 8) (.t 7)⟩]

def f_slices_IndexFunc_tremor_Range_r3 : List Abs.Op := [
  ⟨some 10, none, false, .mv (.t 8)⟩,
  ⟨some 5, none, false, .mv (.t 10)⟩]

def f_slices_IndexFunc_tremor_Range_r4 : List Abs.Op := [
  ⟨some 11, none, false, .mv (.t 1)⟩,
  ⟨some 12, none, false, .mv (.t 0)⟩,
  ⟨some 13, none, false, .mv (.t 5)⟩,
  ⟨some 14, none, false, .idxS 2 (.t 12) (.t 13)⟩,
  ⟨some 15, none, false, .ld true 2 (.t 14)⟩,
  ⟨some 16, none, false, .call false (.t 11) [(.t 15)]⟩]

def f_slices_IndexFunc_tremor_Range_r5 : List Abs.Op := [
  ⟨some 17, none, false, .mv (.t 5)⟩,
  ⟨some 4, none, false, .mv (.t 17)⟩]

def f_slices_IndexFunc_tremor_Range_r6 : List Abs.Op := [
  ⟨some 18, none, false, .bin .add (.t 8) (.c (.int .i64 1))⟩,
  ⟨some 8, none, false, .mv (.t 18)⟩]

def f_slices_IndexFunc_tremor_Range_l7 : Abs.Cmd :=
  (.seq (.reg [0, 1, 7, 8, 9] f_slices_IndexFunc_tremor_Range_r2) (.seq (.ite (.t 9) .nop (.exit 0)) (.seq (.blk 1 (.seq (.reg [0, 1, 5, 7, 8] f_slices_IndexFunc_tremor_Range_r3) (.seq (.reg [0, 1, 5, 7, 8, 16] f_slices_IndexFunc_tremor_Range_r4) (.ite (.t 16) (.seq (.reg [4] f_slices_IndexFunc_tremor_Range_r5) .ret) .nop)))) (.reg [0, 1, 7, 8] f_slices_IndexFunc_tremor_Range_r6))))

def f_slices_IndexFunc_tremor_Range_r8 : List Abs.Op := [
  ⟨some 4, none, false, .mv (.c (.int .i64 (-1)))⟩]

def a_slices_IndexFunc_tremor_Range : Ann := ⟨[(7, [4]), (6, [0, 1, 7, 8]), (5, [4]), (4, [0, 1, 5, 7, 8, 16]), (3, [0, 1, 5, 7, 8]), (2, [0, 1, 7, 8, 9]), (1, [0, 1, 7, 8]), (0, [0, 1])], [(0, [0, 1, 7, 8])], [], [], [], [], [], []⟩
def f_slices_IndexFunc_tremor_Range : Abs.Fn := ⟨2, [.t 4],
  (.seq (.reg [0, 1] f_slices_IndexFunc_tremor_Range_r0) (.seq (.seq (.reg [0, 1, 7, 8] f_slices_IndexFunc_tremor_Range_r1) (.blk 0 (.loop [0, 1, 7, 8] false f_slices_IndexFunc_tremor_Range_l7))) (.seq (.reg [4] f_slices_IndexFunc_tremor_Range_r8) .ret)))⟩

theorem e_slices_IndexFunc_tremor_Range_r0 : type_of% f_slices_IndexFunc_tremor_Range_r0.eq_1 := by_rfl f_slices_IndexFunc_tremor_Range_r0.eq_1
theorem e_slices_IndexFunc_tremor_Range_r1 : type_of% f_slices_IndexFunc_tremor_Range_r1.eq_1 := by_rfl f_slices_IndexFunc_tremor_Range_r1.eq_1
theorem e_slices_IndexFunc_tremor_Range_r2 : type_of% f_slices_IndexFunc_tremor_Range_r2.eq_1 := by_rfl f_slices_IndexFunc_tremor_Range_r2.eq_1
theorem e_slices_IndexFunc_tremor_Range_r3 : type_of% f_slices_IndexFunc_tremor_Range_r3.eq_1 := by_rfl f_slices_IndexFunc_tremor_Range_r3.eq_1
theorem e_slices_IndexFunc_tremor_Range_r4 : type_of% f_slices_IndexFunc_tremor_Range_r4.eq_1 := by_rfl f_slices_IndexFunc_tremor_Range_r4.eq_1
theorem e_slices_IndexFunc_tremor_Range_r5 : type_of% f_slices_IndexFunc_tremor_Range_r5.eq_1 := by_rfl f_slices_IndexFunc_tremor_Range_r5.eq_1
theorem e_slices_IndexFunc_tremor_Range_r6 : type_of% f_slices_IndexFunc_tremor_Range_r6.eq_1 := by_rfl f_slices_IndexFunc_tremor_Range_r6.eq_1
theorem e_slices_IndexFunc_tremor_Range_l7 : type_of% f_slices_IndexFunc_tremor_Range_l7.eq_1 := by_rfl f_slices_IndexFunc_tremor_Range_l7.eq_1
theorem e_slices_IndexFunc_tremor_Range_r8 : type_of% f_slices_IndexFunc_tremor_Range_r8.eq_1 := by_rfl f_slices_IndexFunc_tremor_Range_r8.eq_1
theorem e_slices_IndexFunc_tremor_Range : type_of% f_slices_IndexFunc_tremor_Range.eq_1 := by_rfl f_slices_IndexFunc_tremor_Range.eq_1
theorem ok_slices_IndexFunc_tremor_Range : fnC Try.prog a_slices_IndexFunc_tremor_Range Try.f85 = some f_slices_IndexFunc_tremor_Range := by kernel_rfl

/-! 86 fumarole/tremor.Reasons$1 -/
def f_tremor_Reasons_1_r0 : List Abs.Op := [
  ⟨some 2, none, false, .boxi (.t 0)⟩,
  ⟨some 3, none, false, .mv (.c (.bool false))⟩]

def f_tremor_Reasons_1_r1 : List Abs.Op := [
  ⟨some 4, none, false, .ld true 2 (.t 2)⟩,
  ⟨some 5, none, false, .fadr 0 (.t 1)⟩,
  ⟨some 6, none, false, .ld false 1 (.t 5)⟩,
  ⟨some 7, none, false, .fadr 1 (.t 2)⟩,
  ⟨some 8, none, false, .ld false 1 (.t 7)⟩,
  ⟨some 9, none, false, .bld [(.int .i64 0), (.int .i64 0)] [(0, 1, (.t 6)), (1, 1, (.t 8))]⟩,
  ⟨some 10, none, false, .eqv true [some .i64, some .i64] false (.t 4) (.t 9)⟩,
  ⟨some 3, none, false, .mv (.t 10)⟩]

def a_tremor_Reasons_1 : Ann := ⟨[(1, [3]), (0, [1, 2])], [], [], [], [], [], [], []⟩
def f_tremor_Reasons_1 : Abs.Fn := ⟨2, [.t 3],
  (.seq (.reg [1, 2] f_tremor_Reasons_1_r0) (.seq (.reg [3] f_tremor_Reasons_1_r1) .ret))⟩

theorem e_tremor_Reasons_1_r0 : type_of% f_tremor_Reasons_1_r0.eq_1 := by_rfl f_tremor_Reasons_1_r0.eq_1
theorem e_tremor_Reasons_1_r1 : type_of% f_tremor_Reasons_1_r1.eq_1 := by_rfl f_tremor_Reasons_1_r1.eq_1
theorem e_tremor_Reasons_1 : type_of% f_tremor_Reasons_1.eq_1 := by_rfl f_tremor_Reasons_1.eq_1
theorem ok_tremor_Reasons_1 : fnC Try.prog a_tremor_Reasons_1 Try.f86 = some f_tremor_Reasons_1 := by kernel_rfl

/-! 87 fumarole/tremor.Reasons$2 -/
def f_tremor_Reasons_2_r0 : List Abs.Op := [
  ⟨some 2, none, false, .boxi (.t 0)⟩,
  ⟨some 3, none, false, .mv (.c (.bool false))⟩]

def f_tremor_Reasons_2_r1 : List Abs.Op := [
  ⟨some 4, none, false, .ld true 2 (.t 2)⟩,
  ⟨some 5, none, false, .fadr 0 (.t 2)⟩,
  ⟨some 6, none, false, .ld false 1 (.t 5)⟩,
  ⟨some 7, none, false, .fadr 1 (.t 1)⟩,
  ⟨some 8, none, false, .ld false 1 (.t 7)⟩,
  ⟨some 9, none, false, .bld [(.int .i64 0), (.int .i64 0)] [(0, 1, (.t 6)), (1, 1, (.t 8))]⟩,
  ⟨some 10, none, false, .eqv true [some .i64, some .i64] false (.t 4) (.t 9)⟩,
  ⟨some 3, none, false, .mv (.t 10)⟩]

def a_tremor_Reasons_2 : Ann := ⟨[(1, [3]), (0, [1, 2])], [], [], [], [], [], [], []⟩
def f_tremor_Reasons_2 : Abs.Fn := ⟨2, [.t 3],
  (.seq (.reg [1, 2] f_tremor_Reasons_2_r0) (.seq (.reg [3] f_tremor_Reasons_2_r1) .ret))⟩

theorem e_tremor_Reasons_2_r0 : type_of% f_tremor_Reasons_2_r0.eq_1 := by_rfl f_tremor_Reasons_2_r0.eq_1
theorem e_tremor_Reasons_2_r1 : type_of% f_tremor_Reasons_2_r1.eq_1 := by_rfl f_tremor_Reasons_2_r1.eq_1
theorem e_tremor_Reasons_2 : type_of% f_tremor_Reasons_2.eq_1 := by_rfl f_tremor_Reasons_2.eq_1
theorem ok_tremor_Reasons_2 : fnC Try.prog a_tremor_Reasons_2 Try.f87 = some f_tremor_Reasons_2 := by kernel_rfl

/-! 88 (fumarole/tremor.heard).span -/
def f_tremor_heard_span_r0 : List Abs.Op := [
  ⟨some 3, none, false, .boxi (.t 0)⟩,
  ⟨some 4, none, false, .boxi (.t 1)⟩,
  ⟨some 6, none, false, .alcv [] [(.int .i64 0), (.int .i64 0)]⟩]

def f_tremor_heard_span_r1 : List Abs.Op := [
  ⟨some 10, none, false, .fadr 12 (.t 3)⟩,
  ⟨some 11, none, false, .ld false 1 (.t 10)⟩,
  ⟨some 12, none, false, .mv (.t 2)⟩,
  ⟨some 13, none, false, .idxS 4 (.t 11) (.t 12)⟩,
  ⟨some 14, none, false, .ld true 4 (.t 13)⟩,
  ⟨some 7, none, false, .alcv [] [(.int .i64 0), (.int .u8 0), (.int .i64 0), (.int .i64 0)]⟩,
  ⟨none, none, false, .stv 7 [] 4 7 (.t 14)⟩]

def f_tremor_heard_span_r2 : List Abs.Op := [
  ⟨some 15, none, true, .fadr 0 (.t 3)⟩,
  ⟨some 16, none, true, .ld true 12 (.t 15)⟩,
  ⟨some 17, none, true, .fadr 0 (.t 7)⟩,
  ⟨some 18, none, true, .ldv 7 false 1 17⟩,
  ⟨some 19, none, true, .fadr 1 (.t 7)⟩,
  ⟨some 20, none, true, .ldv 7 false 1 19⟩,
  ⟨some 21, none, true, .ld true 3 (.t 4)⟩,
  ⟨some 22, none, true, .call false (.c (.fn i_tremor_Net_travel [] [])) [(.t 16), (.t 18), (.t 20), (.t 21)]⟩,
  ⟨some 23, none, true, .fadr 0 (.t 3)⟩,
  ⟨some 24, none, true, .fadr 0 (.t 23)⟩,
  ⟨some 25, none, true, .ld false 1 (.t 24)⟩,
  ⟨some 26, none, true, .fadr 0 (.t 7)⟩,
  ⟨some 27, none, true, .ldv 7 false 1 26⟩,
  ⟨some 28, none, true, .idxS 4 (.t 25) (.t 27)⟩,
  ⟨some 29, none, true, .fadr 3 (.t 28)⟩,
  ⟨some 30, none, true, .ld false 1 (.t 29)⟩,
  ⟨some 8, none, true, .alcv [] [(.int .i64 0), (.int .i64 0)]⟩,
  ⟨none, none, true, .stv 8 [] 2 8 (.t 22)⟩,
  ⟨some 9, none, false, .mv (.t 30)⟩]

def f_tremor_heard_span_r3 : List Abs.Op := [
  ⟨some 31, none, false, .fadr 2 (.t 7)⟩,
  ⟨some 32, none, false, .fadr 0 (.t 31)⟩,
  ⟨some 33, none, false, .ldv 7 false 1 32⟩,
  ⟨some 34, none, false, .mv (.t 9)⟩,
  ⟨some 35, none, false, .bin .sub (.t 33) (.t 34)⟩,
  ⟨some 36, none, false, .fadr 1 (.t 8)⟩,
  ⟨some 37, none, false, .ldv 8 false 1 36⟩,
  ⟨some 38, none, false, .bin .sub (.t 35) (.t 37)⟩,
  ⟨some 39, none, false, .fadr 2 (.t 7)⟩,
  ⟨some 40, none, false, .fadr 1 (.t 39)⟩,
  ⟨some 41, none, false, .ldv 7 false 1 40⟩,
  ⟨some 42, none, false, .mv (.t 9)⟩,
  ⟨some 43, none, false, .bin .add (.t 41) (.t 42)⟩,
  ⟨some 44, none, false, .fadr 0 (.t 8)⟩,
  ⟨some 45, none, false, .ldv 8 false 1 44⟩,
  ⟨some 46, none, false, .bin .sub (.t 43) (.t 45)⟩,
  ⟨some 47, none, false, .bld [(.int .i64 0), (.int .i64 0)] [(0, 1, (.t 38)), (1, 1, (.t 46))]⟩,
  ⟨none, none, false, .stv 6 [] 2 6 (.t 47)⟩]

def a_tremor_heard_span : Ann := ⟨[(3, [6]), (2, [6, 7, 8, 9]), (1, [3, 4, 6, 7]), (0, [2, 3, 4, 6])], [], [], [6, 7, 8], [6, 7, 8], [], [], []⟩
def f_tremor_heard_span : Abs.Fn := ⟨3, [.v 6 true 2],
  (.seq (.reg [2, 3, 4, 6] f_tremor_heard_span_r0) (.seq (.reg [3, 4, 6, 7] f_tremor_heard_span_r1) (.seq (.reg [6, 7, 8, 9] f_tremor_heard_span_r2) (.seq (.reg [6] f_tremor_heard_span_r3) .ret))))⟩

theorem e_tremor_heard_span_r0 : type_of% f_tremor_heard_span_r0.eq_1 := by_rfl f_tremor_heard_span_r0.eq_1
theorem e_tremor_heard_span_r1 : type_of% f_tremor_heard_span_r1.eq_1 := by_rfl f_tremor_heard_span_r1.eq_1
theorem e_tremor_heard_span_r2 : type_of% f_tremor_heard_span_r2.eq_1 := by_rfl f_tremor_heard_span_r2.eq_1
theorem e_tremor_heard_span_r3 : type_of% f_tremor_heard_span_r3.eq_1 := by_rfl f_tremor_heard_span_r3.eq_1
theorem e_tremor_heard_span : type_of% f_tremor_heard_span.eq_1 := by_rfl f_tremor_heard_span.eq_1
theorem ok_tremor_heard_span : fnC Try.prog a_tremor_heard_span Try.f88 = some f_tremor_heard_span := by kernel_rfl

/-! 90 fumarole/tremor.all[fumarole/tremor.Rule] -/
def f_tremor_all_tremor_Rule_r0 : List Abs.Op := [
  ⟨some 3, none, false, .boxi (.t 1)⟩,
  ⟨some 4, none, false, .mv (.c (.bool false))⟩]

def f_tremor_all_tremor_Rule_r1 : List Abs.Op := [
  ⟨some 5, none, false, .mv (.t 0)⟩,
  ⟨some 6, none, false, .mkf i_tremor_all_tremor_Rule_1 [] [(.t 3)]⟩,
  ⟨some 7, none, false, .call false (.c (.fn i_slices_ContainsFunc_tremor_Rule [] [])) [(.t 5), (.t 6)]⟩,
  ⟨some 8, none, false, .un .not (.t 7)⟩,
  ⟨some 4, none, false, .mv (.t 8)⟩]

def a_tremor_all_tremor_Rule : Ann := ⟨[(1, [4]), (0, [0, 3])], [], [], [], [], [], [], []⟩
def f_tremor_all_tremor_Rule : Abs.Fn := ⟨2, [.t 4],
  (.seq (.reg [0, 3] f_tremor_all_tremor_Rule_r0) (.seq (.reg [4] f_tremor_all_tremor_Rule_r1) .ret))⟩

theorem e_tremor_all_tremor_Rule_r0 : type_of% f_tremor_all_tremor_Rule_r0.eq_1 := by_rfl f_tremor_all_tremor_Rule_r0.eq_1
theorem e_tremor_all_tremor_Rule_r1 : type_of% f_tremor_all_tremor_Rule_r1.eq_1 := by_rfl f_tremor_all_tremor_Rule_r1.eq_1
theorem e_tremor_all_tremor_Rule : type_of% f_tremor_all_tremor_Rule.eq_1 := by_rfl f_tremor_all_tremor_Rule.eq_1
theorem ok_tremor_all_tremor_Rule : fnC Try.prog a_tremor_all_tremor_Rule Try.f90 = some f_tremor_all_tremor_Rule := by kernel_rfl

/-! 91 (fumarole/tremor.Rule).valid -/
def f_tremor_Rule_valid_r0 : List Abs.Op := [
  ⟨some 1, none, false, .boxi (.t 0)⟩,
  ⟨some 2, none, false, .mv (.c (.bool false))⟩]

def f_tremor_Rule_valid_r1 : List Abs.Op := [
  ⟨some 3, none, false, .fadr 0 (.t 1)⟩,
  ⟨some 4, none, false, .ld true 3 (.t 3)⟩,
  ⟨some 5, none, false, .fadr 3 (.t 1)⟩,
  ⟨some 6, none, false, .ld true 3 (.t 5)⟩,
  ⟨some 7, none, false, .call false (.c (.fn i_tremor_box [] [])) [(.t 4), (.t 6)]⟩,
  ⟨some 8, none, false, .mv (.t 7)⟩,
  ⟨some 9, some (8, true), false, .fadr 6 (.t 1)⟩,
  ⟨some 10, some (8, true), false, .ld false 1 (.t 9)⟩,
  ⟨some 11, some (8, true), false, .call false (.c (.fn i_tremor_within [] [])) [(.t 10), (.c (.int .i64 0)), (.c (.int .i64 160))]⟩,
  ⟨some 12, none, false, .pick (.t 8) (.t 11) (.c (.bool false))⟩,
  ⟨some 13, none, false, .mv (.t 12)⟩,
  ⟨some 14, some (13, true), false, .fadr 7 (.t 1)⟩,
  ⟨some 15, some (13, true), false, .ld false 1 (.t 14)⟩,
  ⟨some 16, some (13, true), false, .call false (.c (.fn i_tremor_within [] [])) [(.t 15), (.c (.int .i64 1)), (.c (.int .i64 1000000))]⟩,
  ⟨some 17, none, false, .pick (.t 13) (.t 16) (.c (.bool false))⟩,
  ⟨some 18, none, false, .mv (.t 17)⟩,
  ⟨some 19, some (18, true), false, .fadr 8 (.t 1)⟩,
  ⟨some 20, some (18, true), false, .ld false 1 (.t 19)⟩,
  ⟨some 21, some (18, true), false, .call false (.c (.fn i_tremor_within [] [])) [(.t 20), (.c (.int .i64 1)), (.c (.int .i64 200))]⟩,
  ⟨some 22, none, false, .pick (.t 18) (.t 21) (.c (.bool false))⟩,
  ⟨some 23, none, false, .mv (.t 22)⟩,
  ⟨some 24, some (23, true), false, .fadr 9 (.t 1)⟩,
  ⟨some 25, some (23, true), false, .ld false 1 (.t 24)⟩,
  ⟨some 26, some (23, true), false, .bin .eql (.t 25) (.c (.int .u8 1))⟩,
  ⟨some 27, some (23, true), false, .mv (.t 26)⟩,
  ⟨some 28, some (27, false), false, .fadr 9 (.t 1)⟩,
  ⟨some 29, some (27, false), false, .ld false 1 (.t 28)⟩,
  ⟨some 30, some (27, false), false, .bin .eql (.t 29) (.c (.int .u8 2))⟩,
  ⟨some 31, some (23, true), false, .pick (.t 27) (.c (.bool true)) (.t 30)⟩,
  ⟨some 32, none, false, .pick (.t 23) (.t 31) (.c (.bool false))⟩,
  ⟨some 2, none, false, .mv (.t 32)⟩]

def a_tremor_Rule_valid : Ann := ⟨[(1, [2]), (0, [1])], [], [], [], [], [], [], []⟩
def f_tremor_Rule_valid : Abs.Fn := ⟨1, [.t 2],
  (.seq (.reg [1] f_tremor_Rule_valid_r0) (.seq (.reg [2] f_tremor_Rule_valid_r1) .ret))⟩

theorem e_tremor_Rule_valid_r0 : type_of% f_tremor_Rule_valid_r0.eq_1 := by_rfl f_tremor_Rule_valid_r0.eq_1
theorem e_tremor_Rule_valid_r1 : type_of% f_tremor_Rule_valid_r1.eq_1 := by_rfl f_tremor_Rule_valid_r1.eq_1
theorem e_tremor_Rule_valid : type_of% f_tremor_Rule_valid.eq_1 := by_rfl f_tremor_Rule_valid.eq_1
theorem ok_tremor_Rule_valid : fnC Try.prog a_tremor_Rule_valid Try.f91 = some f_tremor_Rule_valid := by kernel_rfl

/-! 92 fumarole/tremor.all[fumarole/tremor.Event] -/
def f_tremor_all_tremor_Event_r0 : List Abs.Op := [
  ⟨some 3, none, false, .boxi (.t 1)⟩,
  ⟨some 4, none, false, .mv (.c (.bool false))⟩]

def f_tremor_all_tremor_Event_r1 : List Abs.Op := [
  ⟨some 5, none, false, .mv (.t 0)⟩,
  ⟨some 6, none, false, .mkf i_tremor_all_tremor_Event_1 [] [(.t 3)]⟩,
  ⟨some 7, none, false, .call false (.c (.fn i_slices_ContainsFunc_tremor_Event [] [])) [(.t 5), (.t 6)]⟩,
  ⟨some 8, none, false, .un .not (.t 7)⟩,
  ⟨some 4, none, false, .mv (.t 8)⟩]

def a_tremor_all_tremor_Event : Ann := ⟨[(1, [4]), (0, [0, 3])], [], [], [], [], [], [], []⟩
def f_tremor_all_tremor_Event : Abs.Fn := ⟨2, [.t 4],
  (.seq (.reg [0, 3] f_tremor_all_tremor_Event_r0) (.seq (.reg [4] f_tremor_all_tremor_Event_r1) .ret))⟩

theorem e_tremor_all_tremor_Event_r0 : type_of% f_tremor_all_tremor_Event_r0.eq_1 := by_rfl f_tremor_all_tremor_Event_r0.eq_1
theorem e_tremor_all_tremor_Event_r1 : type_of% f_tremor_all_tremor_Event_r1.eq_1 := by_rfl f_tremor_all_tremor_Event_r1.eq_1
theorem e_tremor_all_tremor_Event : type_of% f_tremor_all_tremor_Event.eq_1 := by_rfl f_tremor_all_tremor_Event.eq_1
theorem ok_tremor_all_tremor_Event : fnC Try.prog a_tremor_all_tremor_Event Try.f92 = some f_tremor_all_tremor_Event := by kernel_rfl

/-! 93 (fumarole/tremor.Event).valid -/
def f_tremor_Event_valid_r0 : List Abs.Op := [
  ⟨some 1, none, false, .boxi (.t 0)⟩,
  ⟨some 2, none, false, .mv (.c (.bool false))⟩]

def f_tremor_Event_valid_r1 : List Abs.Op := [
  ⟨some 3, none, false, .fadr 0 (.t 1)⟩,
  ⟨some 4, none, false, .ld false 1 (.t 3)⟩,
  ⟨some 5, none, false, .call false (.c (.fn i_tremor_within [] [])) [(.t 4), (.c (.int .i64 0)), (.c (.int .i64 1000000))]⟩,
  ⟨some 6, none, false, .mv (.t 5)⟩,
  ⟨some 7, some (6, true), false, .fadr 1 (.t 1)⟩,
  ⟨some 8, some (6, true), false, .ld false 1 (.t 7)⟩,
  ⟨some 9, some (6, true), false, .lenS (.t 8)⟩,
  ⟨some 10, some (6, true), false, .call false (.c (.fn i_tremor_within [] [])) [(.t 9), (.c (.int .i64 1)), (.c (.int .i64 2000))]⟩,
  ⟨some 11, none, false, .pick (.t 6) (.t 10) (.c (.bool false))⟩,
  ⟨some 12, none, false, .mv (.t 11)⟩,
  ⟨some 13, some (12, true), false, .fadr 1 (.t 1)⟩,
  ⟨some 14, some (12, true), false, .ld false 1 (.t 13)⟩,
  ⟨some 15, some (12, true), false, .call false (.c (.fn i_tremor_all_tremor_Spot [] [])) [(.t 14), (.c (.fn i_tremor_Event_valid_1 [] []))]⟩,
  ⟨some 16, none, false, .pick (.t 12) (.t 15) (.c (.bool false))⟩,
  ⟨some 2, none, false, .mv (.t 16)⟩]

def a_tremor_Event_valid : Ann := ⟨[(1, [2]), (0, [1])], [], [], [], [], [], [], []⟩
def f_tremor_Event_valid : Abs.Fn := ⟨1, [.t 2],
  (.seq (.reg [1] f_tremor_Event_valid_r0) (.seq (.reg [2] f_tremor_Event_valid_r1) .ret))⟩

theorem e_tremor_Event_valid_r0 : type_of% f_tremor_Event_valid_r0.eq_1 := by_rfl f_tremor_Event_valid_r0.eq_1
theorem e_tremor_Event_valid_r1 : type_of% f_tremor_Event_valid_r1.eq_1 := by_rfl f_tremor_Event_valid_r1.eq_1
theorem e_tremor_Event_valid : type_of% f_tremor_Event_valid.eq_1 := by_rfl f_tremor_Event_valid.eq_1
theorem ok_tremor_Event_valid : fnC Try.prog a_tremor_Event_valid Try.f93 = some f_tremor_Event_valid := by kernel_rfl

/-! 94 (fumarole/tremor.Rule).counts -/
def f_tremor_Rule_counts_r0 : List Abs.Op := [
  ⟨some 2, none, false, .boxi (.t 0)⟩,
  ⟨some 3, none, false, .boxi (.t 1)⟩,
  ⟨some 4, none, false, .mv (.c (.bool false))⟩]

def f_tremor_Rule_counts_r1 : List Abs.Op := [
  ⟨some 6, none, false, .fadr 0 (.t 3)⟩,
  ⟨some 7, none, false, .ld true 3 (.t 6)⟩,
  ⟨some 5, none, false, .alcv [] [(.int .i64 0), (.int .i64 0), (.int .i64 0)]⟩,
  ⟨none, none, false, .stv 5 [] 3 5 (.t 7)⟩]

def f_tremor_Rule_counts_r2 : List Abs.Op := [
  ⟨some 8, none, false, .fadr 3 (.t 3)⟩,
  ⟨some 9, none, false, .ld false 1 (.t 8)⟩,
  ⟨some 10, none, false, .fadr 6 (.t 2)⟩,
  ⟨some 11, none, false, .ld false 1 (.t 10)⟩,
  ⟨some 12, none, false, .bin .geq (.t 9) (.t 11)⟩,
  ⟨some 13, none, false, .mv (.t 12)⟩,
  ⟨some 14, some (13, true), false, .fadr 0 (.t 5)⟩,
  ⟨some 15, some (13, true), false, .ldv 5 false 1 14⟩,
  ⟨some 16, some (13, true), false, .fadr 0 (.t 2)⟩,
  ⟨some 17, some (13, true), false, .fadr 0 (.t 16)⟩,
  ⟨some 18, some (13, true), false, .ld false 1 (.t 17)⟩,
  ⟨some 19, some (13, true), false, .fadr 3 (.t 2)⟩,
  ⟨some 20, some (13, true), false, .fadr 0 (.t 19)⟩,
  ⟨some 21, some (13, true), false, .ld false 1 (.t 20)⟩,
  ⟨some 22, some (13, true), false, .call false (.c (.fn i_tremor_within [] [])) [(.t 15), (.t 18), (.t 21)]⟩,
  ⟨some 23, none, false, .pick (.t 13) (.t 22) (.c (.bool false))⟩,
  ⟨some 24, none, false, .mv (.t 23)⟩,
  ⟨some 25, some (24, true), false, .fadr 1 (.t 5)⟩,
  ⟨some 26, some (24, true), false, .ldv 5 false 1 25⟩,
  ⟨some 27, some (24, true), false, .fadr 0 (.t 2)⟩,
  ⟨some 28, some (24, true), false, .fadr 1 (.t 27)⟩,
  ⟨some 29, some (24, true), false, .ld false 1 (.t 28)⟩,
  ⟨some 30, some (24, true), false, .fadr 3 (.t 2)⟩,
  ⟨some 31, some (24, true), false, .fadr 1 (.t 30)⟩,
  ⟨some 32, some (24, true), false, .ld false 1 (.t 31)⟩,
  ⟨some 33, some (24, true), false, .call false (.c (.fn i_tremor_within [] [])) [(.t 26), (.t 29), (.t 32)]⟩,
  ⟨some 34, none, false, .pick (.t 24) (.t 33) (.c (.bool false))⟩,
  ⟨some 35, none, false, .mv (.t 34)⟩,
  ⟨some 36, some (35, true), false, .fadr 2 (.t 5)⟩,
  ⟨some 37, some (35, true), false, .ldv 5 false 1 36⟩,
  ⟨some 38, some (35, true), false, .fadr 0 (.t 2)⟩,
  ⟨some 39, some (35, true), false, .fadr 2 (.t 38)⟩,
  ⟨some 40, some (35, true), false, .ld false 1 (.t 39)⟩,
  ⟨some 41, some (35, true), false, .fadr 3 (.t 2)⟩,
  ⟨some 42, some (35, true), false, .fadr 2 (.t 41)⟩,
  ⟨some 43, some (35, true), false, .ld false 1 (.t 42)⟩,
  ⟨some 44, some (35, true), false, .call false (.c (.fn i_tremor_within [] [])) [(.t 37), (.t 40), (.t 43)]⟩,
  ⟨some 45, none, false, .pick (.t 35) (.t 44) (.c (.bool false))⟩,
  ⟨some 4, none, false, .mv (.t 45)⟩]

def a_tremor_Rule_counts : Ann := ⟨[(2, [4]), (1, [2, 3, 5]), (0, [2, 3])], [], [], [5], [5], [], [], []⟩
def f_tremor_Rule_counts : Abs.Fn := ⟨2, [.t 4],
  (.seq (.reg [2, 3] f_tremor_Rule_counts_r0) (.seq (.reg [2, 3, 5] f_tremor_Rule_counts_r1) (.seq (.reg [4] f_tremor_Rule_counts_r2) .ret)))⟩

theorem e_tremor_Rule_counts_r0 : type_of% f_tremor_Rule_counts_r0.eq_1 := by_rfl f_tremor_Rule_counts_r0.eq_1
theorem e_tremor_Rule_counts_r1 : type_of% f_tremor_Rule_counts_r1.eq_1 := by_rfl f_tremor_Rule_counts_r1.eq_1
theorem e_tremor_Rule_counts_r2 : type_of% f_tremor_Rule_counts_r2.eq_1 := by_rfl f_tremor_Rule_counts_r2.eq_1
theorem e_tremor_Rule_counts : type_of% f_tremor_Rule_counts.eq_1 := by_rfl f_tremor_Rule_counts.eq_1
theorem ok_tremor_Rule_counts : fnC Try.prog a_tremor_Rule_counts Try.f94 = some f_tremor_Rule_counts := by kernel_rfl

/-! 95 slices.ContainsFunc[[]fumarole/tremor.Spot,fumarole/tremor.Spot] -/
def f_slices_ContainsFunc_tremor_Spot_r0 : List Abs.Op := [
  ⟨some 4, none, false, .mv (.c (.bool false))⟩]

def f_slices_ContainsFunc_tremor_Spot_r1 : List Abs.Op := [
  ⟨some 5, none, false, .mv (.t 0)⟩,
  ⟨some 6, none, false, .mv (.t 1)⟩,
  ⟨some 7, none, false, .call false (.c (.fn i_slices_IndexFunc_tremor_Spot [] [])) [(.t 5), (.t 6)]⟩,
  ⟨some 8, none, false, .bin .geq (.t 7) (.c (.int .i64 0))⟩,
  ⟨some 4, none, false, .mv (.t 8)⟩]

def a_slices_ContainsFunc_tremor_Spot : Ann := ⟨[(1, [4]), (0, [0, 1])], [], [], [], [], [], [], []⟩
def f_slices_ContainsFunc_tremor_Spot : Abs.Fn := ⟨2, [.t 4],
  (.seq (.reg [0, 1] f_slices_ContainsFunc_tremor_Spot_r0) (.seq (.reg [4] f_slices_ContainsFunc_tremor_Spot_r1) .ret))⟩

theorem e_slices_ContainsFunc_tremor_Spot_r0 : type_of% f_slices_ContainsFunc_tremor_Spot_r0.eq_1 := by_rfl f_slices_ContainsFunc_tremor_Spot_r0.eq_1
theorem e_slices_ContainsFunc_tremor_Spot_r1 : type_of% f_slices_ContainsFunc_tremor_Spot_r1.eq_1 := by_rfl f_slices_ContainsFunc_tremor_Spot_r1.eq_1
theorem e_slices_ContainsFunc_tremor_Spot : type_of% f_slices_ContainsFunc_tremor_Spot.eq_1 := by_rfl f_slices_ContainsFunc_tremor_Spot.eq_1
theorem ok_slices_ContainsFunc_tremor_Spot : fnC Try.prog a_slices_ContainsFunc_tremor_Spot Try.f95 = some f_slices_ContainsFunc_tremor_Spot := by kernel_rfl

/-! 96 fumarole/tremor.all[fumarole/tremor.Spot] -/
def f_tremor_all_tremor_Spot_r0 : List Abs.Op := [
  ⟨some 3, none, false, .boxi (.t 1)⟩,
  ⟨some 4, none, false, .mv (.c (.bool false))⟩]

def f_tremor_all_tremor_Spot_r1 : List Abs.Op := [
  ⟨some 5, none, false, .mv (.t 0)⟩,
  ⟨some 6, none, false, .mkf i_tremor_all_tremor_Spot_1 [] [(.t 3)]⟩,
  ⟨some 7, none, false, .call false (.c (.fn i_slices_ContainsFunc_tremor_Spot [] [])) [(.t 5), (.t 6)]⟩,
  ⟨some 8, none, false, .un .not (.t 7)⟩,
  ⟨some 4, none, false, .mv (.t 8)⟩]

def a_tremor_all_tremor_Spot : Ann := ⟨[(1, [4]), (0, [0, 3])], [], [], [], [], [], [], []⟩
def f_tremor_all_tremor_Spot : Abs.Fn := ⟨2, [.t 4],
  (.seq (.reg [0, 3] f_tremor_all_tremor_Spot_r0) (.seq (.reg [4] f_tremor_all_tremor_Spot_r1) .ret))⟩

theorem e_tremor_all_tremor_Spot_r0 : type_of% f_tremor_all_tremor_Spot_r0.eq_1 := by_rfl f_tremor_all_tremor_Spot_r0.eq_1
theorem e_tremor_all_tremor_Spot_r1 : type_of% f_tremor_all_tremor_Spot_r1.eq_1 := by_rfl f_tremor_all_tremor_Spot_r1.eq_1
theorem e_tremor_all_tremor_Spot : type_of% f_tremor_all_tremor_Spot.eq_1 := by_rfl f_tremor_all_tremor_Spot.eq_1
theorem ok_tremor_all_tremor_Spot : fnC Try.prog a_tremor_all_tremor_Spot Try.f96 = some f_tremor_all_tremor_Spot := by kernel_rfl

/-! 97 fumarole/tremor.all[fumarole/tremor.Pick] -/
def f_tremor_all_tremor_Pick_r0 : List Abs.Op := [
  ⟨some 3, none, false, .boxi (.t 1)⟩,
  ⟨some 4, none, false, .mv (.c (.bool false))⟩]

def f_tremor_all_tremor_Pick_r1 : List Abs.Op := [
  ⟨some 5, none, false, .mv (.t 0)⟩,
  ⟨some 6, none, false, .mkf i_tremor_all_tremor_Pick_1 [] [(.t 3)]⟩,
  ⟨some 7, none, false, .call false (.c (.fn i_slices_ContainsFunc_tremor_Pick [] [])) [(.t 5), (.t 6)]⟩,
  ⟨some 8, none, false, .un .not (.t 7)⟩,
  ⟨some 4, none, false, .mv (.t 8)⟩]

def a_tremor_all_tremor_Pick : Ann := ⟨[(1, [4]), (0, [0, 3])], [], [], [], [], [], [], []⟩
def f_tremor_all_tremor_Pick : Abs.Fn := ⟨2, [.t 4],
  (.seq (.reg [0, 3] f_tremor_all_tremor_Pick_r0) (.seq (.reg [4] f_tremor_all_tremor_Pick_r1) .ret))⟩

theorem e_tremor_all_tremor_Pick_r0 : type_of% f_tremor_all_tremor_Pick_r0.eq_1 := by_rfl f_tremor_all_tremor_Pick_r0.eq_1
theorem e_tremor_all_tremor_Pick_r1 : type_of% f_tremor_all_tremor_Pick_r1.eq_1 := by_rfl f_tremor_all_tremor_Pick_r1.eq_1
theorem e_tremor_all_tremor_Pick : type_of% f_tremor_all_tremor_Pick.eq_1 := by_rfl f_tremor_all_tremor_Pick.eq_1
theorem ok_tremor_all_tremor_Pick : fnC Try.prog a_tremor_all_tremor_Pick Try.f97 = some f_tremor_all_tremor_Pick := by kernel_rfl

/-! 98 (fumarole/tremor.heard).check$1 -/
def f_tremor_heard_check_1_r0 : List Abs.Op := [
  ⟨some 2, none, false, .boxi (.t 0)⟩,
  ⟨some 3, none, false, .mv (.c (.bool false))⟩]

def f_tremor_heard_check_1_r1 : List Abs.Op := [
  ⟨some 4, none, false, .fadr 0 (.t 1)⟩,
  ⟨some 5, none, false, .ld true 12 (.t 4)⟩,
  ⟨some 6, none, false, .fadr 0 (.t 2)⟩,
  ⟨some 7, none, false, .ld false 1 (.t 6)⟩,
  ⟨some 8, none, false, .call false (.c (.fn i_tremor_Net_has [] [])) [(.t 5), (.t 7)]⟩,
  ⟨some 9, none, false, .mv (.t 8)⟩,
  ⟨some 10, some (9, true), false, .fadr 1 (.t 2)⟩,
  ⟨some 11, some (9, true), false, .ld false 1 (.t 10)⟩,
  ⟨some 12, some (9, true), false, .cvt .i64 (.t 11)⟩,
  ⟨some 13, some (9, true), false, .bin .lss (.t 12) (.c (.int .i64 2))⟩,
  ⟨some 14, none, false, .pick (.t 9) (.t 13) (.c (.bool false))⟩,
  ⟨some 15, none, false, .mv (.t 14)⟩,
  ⟨some 16, some (15, true), false, .fadr 2 (.t 2)⟩,
  ⟨some 17, some (15, true), false, .ld true 2 (.t 16)⟩,
  ⟨some 18, some (15, true), false, .call false (.c (.fn i_tremor_Range_in [] [])) [(.t 17), (.c (.int .i64 (-100000000))), (.c (.int .i64 100000000))]⟩,
  ⟨some 19, none, false, .pick (.t 15) (.t 18) (.c (.bool false))⟩,
  ⟨some 3, none, false, .mv (.t 19)⟩]

def a_tremor_heard_check_1 : Ann := ⟨[(1, [3]), (0, [1, 2])], [], [], [], [], [], [], []⟩
def f_tremor_heard_check_1 : Abs.Fn := ⟨2, [.t 3],
  (.seq (.reg [1, 2] f_tremor_heard_check_1_r0) (.seq (.reg [3] f_tremor_heard_check_1_r1) .ret))⟩

theorem e_tremor_heard_check_1_r0 : type_of% f_tremor_heard_check_1_r0.eq_1 := by_rfl f_tremor_heard_check_1_r0.eq_1
theorem e_tremor_heard_check_1_r1 : type_of% f_tremor_heard_check_1_r1.eq_1 := by_rfl f_tremor_heard_check_1_r1.eq_1
theorem e_tremor_heard_check_1 : type_of% f_tremor_heard_check_1.eq_1 := by_rfl f_tremor_heard_check_1.eq_1
theorem ok_tremor_heard_check_1 : fnC Try.prog a_tremor_heard_check_1 Try.f98 = some f_tremor_heard_check_1 := by kernel_rfl

/-! 99 (fumarole/tremor.Range).in -/
def f_tremor_Range_in_r0 : List Abs.Op := [
  ⟨some 3, none, false, .boxi (.t 0)⟩,
  ⟨some 6, none, false, .mv (.c (.bool false))⟩]

def f_tremor_Range_in_r1 : List Abs.Op := [
  ⟨some 7, none, false, .mv (.t 1)⟩,
  ⟨some 8, none, false, .fadr 0 (.t 3)⟩,
  ⟨some 9, none, false, .ld false 1 (.t 8)⟩,
  ⟨some 10, none, false, .bin .leq (.t 7) (.t 9)⟩,
  ⟨some 11, none, false, .mv (.t 10)⟩,
  ⟨some 12, some (11, true), false, .fadr 0 (.t 3)⟩,
  ⟨some 13, some (11, true), false, .ld false 1 (.t 12)⟩,
  ⟨some 14, some (11, true), false, .fadr 1 (.t 3)⟩,
  ⟨some 15, some (11, true), false, .ld false 1 (.t 14)⟩,
  ⟨some 16, some (11, true), false, .bin .leq (.t 13) (.t 15)⟩,
  ⟨some 17, none, false, .pick (.t 11) (.t 16) (.c (.bool false))⟩,
  ⟨some 18, none, false, .mv (.t 17)⟩,
  ⟨some 19, some (18, true), false, .fadr 1 (.t 3)⟩,
  ⟨some 20, some (18, true), false, .ld false 1 (.t 19)⟩,
  ⟨some 21, some (18, true), false, .mv (.t 2)⟩,
  ⟨some 22, some (18, true), false, .bin .leq (.t 20) (.t 21)⟩,
  ⟨some 23, none, false, .pick (.t 18) (.t 22) (.c (.bool false))⟩,
  ⟨some 6, none, false, .mv (.t 23)⟩]

def a_tremor_Range_in : Ann := ⟨[(1, [6]), (0, [1, 2, 3])], [], [], [], [], [], [], []⟩
def f_tremor_Range_in : Abs.Fn := ⟨3, [.t 6],
  (.seq (.reg [1, 2, 3] f_tremor_Range_in_r0) (.seq (.reg [6] f_tremor_Range_in_r1) .ret))⟩

theorem e_tremor_Range_in_r0 : type_of% f_tremor_Range_in_r0.eq_1 := by_rfl f_tremor_Range_in_r0.eq_1
theorem e_tremor_Range_in_r1 : type_of% f_tremor_Range_in_r1.eq_1 := by_rfl f_tremor_Range_in_r1.eq_1
theorem e_tremor_Range_in : type_of% f_tremor_Range_in.eq_1 := by_rfl f_tremor_Range_in.eq_1
theorem ok_tremor_Range_in : fnC Try.prog a_tremor_Range_in Try.f99 = some f_tremor_Range_in := by kernel_rfl

/-! 100 fumarole/tremor.all[fumarole/tremor.Station] -/
def f_tremor_all_tremor_Station_r0 : List Abs.Op := [
  ⟨some 3, none, false, .boxi (.t 1)⟩,
  ⟨some 4, none, false, .mv (.c (.bool false))⟩]

def f_tremor_all_tremor_Station_r1 : List Abs.Op := [
  ⟨some 5, none, false, .mv (.t 0)⟩,
  ⟨some 6, none, false, .mkf i_tremor_all_tremor_Station_1 [] [(.t 3)]⟩,
  ⟨some 7, none, false, .call false (.c (.fn i_slices_ContainsFunc_tremor_Station [] [])) [(.t 5), (.t 6)]⟩,
  ⟨some 8, none, false, .un .not (.t 7)⟩,
  ⟨some 4, none, false, .mv (.t 8)⟩]

def a_tremor_all_tremor_Station : Ann := ⟨[(1, [4]), (0, [0, 3])], [], [], [], [], [], [], []⟩
def f_tremor_all_tremor_Station : Abs.Fn := ⟨2, [.t 4],
  (.seq (.reg [0, 3] f_tremor_all_tremor_Station_r0) (.seq (.reg [4] f_tremor_all_tremor_Station_r1) .ret))⟩

theorem e_tremor_all_tremor_Station_r0 : type_of% f_tremor_all_tremor_Station_r0.eq_1 := by_rfl f_tremor_all_tremor_Station_r0.eq_1
theorem e_tremor_all_tremor_Station_r1 : type_of% f_tremor_all_tremor_Station_r1.eq_1 := by_rfl f_tremor_all_tremor_Station_r1.eq_1
theorem e_tremor_all_tremor_Station : type_of% f_tremor_all_tremor_Station.eq_1 := by_rfl f_tremor_all_tremor_Station.eq_1
theorem ok_tremor_all_tremor_Station : fnC Try.prog a_tremor_all_tremor_Station Try.f100 = some f_tremor_all_tremor_Station := by kernel_rfl

/-! 101 (fumarole/tremor.Station).valid -/
def f_tremor_Station_valid_r0 : List Abs.Op := [
  ⟨some 1, none, false, .boxi (.t 0)⟩,
  ⟨some 2, none, false, .mv (.c (.bool false))⟩]

def f_tremor_Station_valid_r1 : List Abs.Op := [
  ⟨some 3, none, false, .fadr 0 (.t 1)⟩,
  ⟨some 4, none, false, .ld true 3 (.t 3)⟩,
  ⟨some 5, none, false, .call false (.c (.fn i_tremor_Point_valid [] [])) [(.t 4)]⟩,
  ⟨some 6, none, false, .mv (.t 5)⟩,
  ⟨some 7, some (6, true), false, .fadr 3 (.t 1)⟩,
  ⟨some 8, some (6, true), false, .ld false 1 (.t 7)⟩,
  ⟨some 9, some (6, true), false, .call false (.c (.fn i_tremor_within [] [])) [(.t 8), (.c (.int .i64 0)), (.c (.int .i64 1000))]⟩,
  ⟨some 10, none, false, .pick (.t 6) (.t 9) (.c (.bool false))⟩,
  ⟨some 2, none, false, .mv (.t 10)⟩]

def a_tremor_Station_valid : Ann := ⟨[(1, [2]), (0, [1])], [], [], [], [], [], [], []⟩
def f_tremor_Station_valid : Abs.Fn := ⟨1, [.t 2],
  (.seq (.reg [1] f_tremor_Station_valid_r0) (.seq (.reg [2] f_tremor_Station_valid_r1) .ret))⟩

theorem e_tremor_Station_valid_r0 : type_of% f_tremor_Station_valid_r0.eq_1 := by_rfl f_tremor_Station_valid_r0.eq_1
theorem e_tremor_Station_valid_r1 : type_of% f_tremor_Station_valid_r1.eq_1 := by_rfl f_tremor_Station_valid_r1.eq_1
theorem e_tremor_Station_valid : type_of% f_tremor_Station_valid.eq_1 := by_rfl f_tremor_Station_valid.eq_1
theorem ok_tremor_Station_valid : fnC Try.prog a_tremor_Station_valid Try.f101 = some f_tremor_Station_valid := by kernel_rfl

/-! 102 fumarole/tremor.box -/
def f_tremor_box_r0 : List Abs.Op := [
  ⟨some 2, none, false, .boxi (.t 0)⟩,
  ⟨some 3, none, false, .boxi (.t 1)⟩,
  ⟨some 4, none, false, .mv (.c (.bool false))⟩]

def f_tremor_box_r1 : List Abs.Op := [
  ⟨some 5, none, false, .ld true 3 (.t 2)⟩,
  ⟨some 6, none, false, .call false (.c (.fn i_tremor_Point_valid [] [])) [(.t 5)]⟩,
  ⟨some 7, none, false, .mv (.t 6)⟩,
  ⟨some 8, some (7, true), false, .ld true 3 (.t 3)⟩,
  ⟨some 9, some (7, true), false, .call false (.c (.fn i_tremor_Point_valid [] [])) [(.t 8)]⟩,
  ⟨some 10, none, false, .pick (.t 7) (.t 9) (.c (.bool false))⟩,
  ⟨some 11, none, false, .mv (.t 10)⟩,
  ⟨some 12, some (11, true), false, .fadr 0 (.t 2)⟩,
  ⟨some 13, some (11, true), false, .ld false 1 (.t 12)⟩,
  ⟨some 14, some (11, true), false, .fadr 0 (.t 3)⟩,
  ⟨some 15, some (11, true), false, .ld false 1 (.t 14)⟩,
  ⟨some 16, some (11, true), false, .bin .leq (.t 13) (.t 15)⟩,
  ⟨some 17, none, false, .pick (.t 11) (.t 16) (.c (.bool false))⟩,
  ⟨some 18, none, false, .mv (.t 17)⟩,
  ⟨some 19, some (18, true), false, .fadr 1 (.t 2)⟩,
  ⟨some 20, some (18, true), false, .ld false 1 (.t 19)⟩,
  ⟨some 21, some (18, true), false, .fadr 1 (.t 3)⟩,
  ⟨some 22, some (18, true), false, .ld false 1 (.t 21)⟩,
  ⟨some 23, some (18, true), false, .bin .leq (.t 20) (.t 22)⟩,
  ⟨some 24, none, false, .pick (.t 18) (.t 23) (.c (.bool false))⟩,
  ⟨some 25, none, false, .mv (.t 24)⟩,
  ⟨some 26, some (25, true), false, .fadr 2 (.t 2)⟩,
  ⟨some 27, some (25, true), false, .ld false 1 (.t 26)⟩,
  ⟨some 28, some (25, true), false, .fadr 2 (.t 3)⟩,
  ⟨some 29, some (25, true), false, .ld false 1 (.t 28)⟩,
  ⟨some 30, some (25, true), false, .bin .leq (.t 27) (.t 29)⟩,
  ⟨some 31, none, false, .pick (.t 25) (.t 30) (.c (.bool false))⟩,
  ⟨some 4, none, false, .mv (.t 31)⟩]

def a_tremor_box : Ann := ⟨[(1, [4]), (0, [2, 3])], [], [], [], [], [], [], []⟩
def f_tremor_box : Abs.Fn := ⟨2, [.t 4],
  (.seq (.reg [2, 3] f_tremor_box_r0) (.seq (.reg [4] f_tremor_box_r1) .ret))⟩

theorem e_tremor_box_r0 : type_of% f_tremor_box_r0.eq_1 := by_rfl f_tremor_box_r0.eq_1
theorem e_tremor_box_r1 : type_of% f_tremor_box_r1.eq_1 := by_rfl f_tremor_box_r1.eq_1
theorem e_tremor_box : type_of% f_tremor_box.eq_1 := by_rfl f_tremor_box.eq_1
theorem ok_tremor_box : fnC Try.prog a_tremor_box Try.f102 = some f_tremor_box := by kernel_rfl

/-! 103 fumarole/tremor.all[fumarole/tremor.Range] -/
def f_tremor_all_tremor_Range_r0 : List Abs.Op := [
  ⟨some 3, none, false, .boxi (.t 1)⟩,
  ⟨some 4, none, false, .mv (.c (.bool false))⟩]

def f_tremor_all_tremor_Range_r1 : List Abs.Op := [
  ⟨some 5, none, false, .mv (.t 0)⟩,
  ⟨some 6, none, false, .mkf i_tremor_all_tremor_Range_1 [] [(.t 3)]⟩,
  ⟨some 7, none, false, .call false (.c (.fn i_slices_ContainsFunc_tremor_Range [] [])) [(.t 5), (.t 6)]⟩,
  ⟨some 8, none, false, .un .not (.t 7)⟩,
  ⟨some 4, none, false, .mv (.t 8)⟩]

def a_tremor_all_tremor_Range : Ann := ⟨[(1, [4]), (0, [0, 3])], [], [], [], [], [], [], []⟩
def f_tremor_all_tremor_Range : Abs.Fn := ⟨2, [.t 4],
  (.seq (.reg [0, 3] f_tremor_all_tremor_Range_r0) (.seq (.reg [4] f_tremor_all_tremor_Range_r1) .ret))⟩

theorem e_tremor_all_tremor_Range_r0 : type_of% f_tremor_all_tremor_Range_r0.eq_1 := by_rfl f_tremor_all_tremor_Range_r0.eq_1
theorem e_tremor_all_tremor_Range_r1 : type_of% f_tremor_all_tremor_Range_r1.eq_1 := by_rfl f_tremor_all_tremor_Range_r1.eq_1
theorem e_tremor_all_tremor_Range : type_of% f_tremor_all_tremor_Range.eq_1 := by_rfl f_tremor_all_tremor_Range.eq_1
theorem ok_tremor_all_tremor_Range : fnC Try.prog a_tremor_all_tremor_Range Try.f103 = some f_tremor_all_tremor_Range := by kernel_rfl

/-! 104 (fumarole/tremor.Net).valid$1 -/
def f_tremor_Net_valid_1_r0 : List Abs.Op := [
  ⟨some 1, none, false, .boxi (.t 0)⟩,
  ⟨some 2, none, false, .mv (.c (.bool false))⟩]

def f_tremor_Net_valid_1_r1 : List Abs.Op := [
  ⟨some 3, none, false, .ld true 2 (.t 1)⟩,
  ⟨some 4, none, false, .call false (.c (.fn i_tremor_Range_in [] [])) [(.t 3), (.c (.int .i64 1)), (.c (.int .i64 2000))]⟩,
  ⟨some 2, none, false, .mv (.t 4)⟩]

def a_tremor_Net_valid_1 : Ann := ⟨[(1, [2]), (0, [1])], [], [], [], [], [], [], []⟩
def f_tremor_Net_valid_1 : Abs.Fn := ⟨1, [.t 2],
  (.seq (.reg [1] f_tremor_Net_valid_1_r0) (.seq (.reg [2] f_tremor_Net_valid_1_r1) .ret))⟩

theorem e_tremor_Net_valid_1_r0 : type_of% f_tremor_Net_valid_1_r0.eq_1 := by_rfl f_tremor_Net_valid_1_r0.eq_1
theorem e_tremor_Net_valid_1_r1 : type_of% f_tremor_Net_valid_1_r1.eq_1 := by_rfl f_tremor_Net_valid_1_r1.eq_1
theorem e_tremor_Net_valid_1 : type_of% f_tremor_Net_valid_1.eq_1 := by_rfl f_tremor_Net_valid_1.eq_1
theorem ok_tremor_Net_valid_1 : fnC Try.prog a_tremor_Net_valid_1 Try.f104 = some f_tremor_Net_valid_1 := by kernel_rfl

end Go.Proofs.Yticpenoicajakaa
