/- The code of functions of the program, in the small instruction set; each is what the translation makes of it. -/
import Derived.Test.YtcccafphhmcifaaIds
set_option linter.unusedVariables false
set_option maxRecDepth 100000
namespace Go.Proofs.Ytcccafphhmcifaa
open Go Go.Abs
/-! 13 fumarole/lease.Split -/
def f_lease_Split_r0 : List Abs.Op := [
  ⟨some 4, none, false, .mv (.c .nils)⟩,
  ⟨some 5, none, false, .mv (.c (.int .i64 0))⟩]

def f_lease_Split_r1 : List Abs.Op := [
  ⟨some 17, none, false, .mv (.t 0)⟩,
  ⟨some 18, none, false, .call false (.c (.fn i_lease_total [] [])) [(.t 17)]⟩,
  ⟨some 19, none, false, .un .not (.t 18)⟩]

def f_lease_Split_r2 : List Abs.Op := [
  ⟨some 4, none, false, .mv (.c .nils)⟩,
  ⟨some 5, none, false, .mv (.c (.int .i64 2))⟩]

def f_lease_Split_r3 : List Abs.Op := [
  ⟨some 6, none, false, .mv (.c (.int .i64 0))⟩]

def f_lease_Split_r4 : List Abs.Op := [
  ⟨some 20, none, false, .mv (.t 1)⟩,
  ⟨some 21, none, false, .lenS (.t 20)⟩,
  ⟨some 22, none, false, .call false (.c (.fn i_lease_within [] [])) [(.t 21), (.c (.int .i64 1)), (.c (.int .i64 8))]⟩,
  ⟨some 23, none, false, .un .not (.t 22)⟩,
  ⟨some 24, none, false, .mv (.t 23)⟩,
  ⟨some 25, some (24, false), false, .mv (.t 1)⟩,
  ⟨some 26, some (24, false), false, .call false (.c (.fn i_lease_all_int [] [])) [(.t 25), (.c (.fn i_lease_total [] []))]⟩,
  ⟨some 27, some (24, false), false, .un .not (.t 26)⟩,
  ⟨some 28, none, false, .pick (.t 24) (.c (.bool true)) (.t 27)⟩,
  ⟨some 29, none, false, .mv (.t 28)⟩,
  ⟨some 30, some (29, false), false, .mv (.t 1)⟩,
  ⟨some 31, some (29, false), false, .call false (.c (.fn i_lease_sum [] [])) [(.t 30)]⟩,
  ⟨some 32, some (29, false), false, .bin .eql (.t 31) (.c (.int .i64 0))⟩,
  ⟨some 33, none, false, .pick (.t 29) (.c (.bool true)) (.t 32)⟩]

def f_lease_Split_r5 : List Abs.Op := [
  ⟨some 4, none, false, .mv (.c .nils)⟩,
  ⟨some 5, none, false, .mv (.c (.int .i64 1))⟩]

def f_lease_Split_r6 : List Abs.Op := [
  ⟨some 34, none, false, .mv (.t 1)⟩,
  ⟨some 35, none, false, .call false (.c (.fn i_lease_sum [] [])) [(.t 34)]⟩,
  ⟨some 6, none, false, .mv (.t 35)⟩]

def f_lease_Split_r7 : List Abs.Op := [
  ⟨some 7, none, false, .nilb 2⟩]

def f_lease_Split_r8 : List Abs.Op := [
  ⟨some 36, none, false, .mv (.t 0)⟩,
  ⟨some 8, none, false, .mv (.t 36)⟩]

def f_lease_Split_r9 : List Abs.Op := [
  ⟨some 37, none, false, .mv (.t 1)⟩,
  ⟨some 38, none, false, .lenS (.t 37)⟩,
  ⟨some 39, none, false, .mv (.c (.int .i64 0))⟩]

def f_lease_Split_r10 : List Abs.Op := [
  ⟨some 40, none, false, .bin .lss (.t 39) (.t 38)⟩]

def f_lease_Split_r11 : List Abs.Op := [
  ⟨some 41, none, false, .idxS 1 (.t 37) (.t 39)⟩,
  ⟨some 42, none, false, .ld false 1 (.t 41)⟩,
  ⟨some 10, none, false, .mv (.t 42)⟩]

def f_lease_Split_r12 : List Abs.Op := [
  ⟨some 43, none, false, .mv (.t 0)⟩,
  ⟨some 44, none, false, .mv (.t 10)⟩,
  ⟨some 45, none, false, .mv (.t 6)⟩,
  ⟨some 46, none, false, .call false (.c (.fn i_lease_part [] [])) [(.t 43), (.t 44), (.t 45)]⟩,
  ⟨some 11, none, false, .alcv [] [(.int .i64 0), (.int .i64 0)]⟩,
  ⟨none, none, false, .stv 11 [] 2 11 (.t 46)⟩]

def f_lease_Split_r13 : List Abs.Op := [
  ⟨some 47, none, true, .mv (.t 7)⟩,
  ⟨some 48, none, true, .ldv 11 true 2 11⟩,
  ⟨some 49, none, true, .bsi 1 2 [(.int .i64 0), (.int .i64 0)] [(0, 2, (.t 48))]⟩,
  ⟨some 50, none, true, .app 2 16 (.t 47) (.t 49)⟩,
  ⟨some 51, none, true, .mv (.t 8)⟩,
  ⟨some 52, none, true, .fadr 0 (.t 11)⟩,
  ⟨some 53, none, true, .ldv 11 false 1 52⟩,
  ⟨some 54, none, true, .bin .sub (.t 51) (.t 53)⟩,
  ⟨some 7, none, true, .mv (.t 50)⟩,
  ⟨some 8, none, false, .mv (.t 54)⟩]

def f_lease_Split_r14 : List Abs.Op := [
  ⟨some 55, none, false, .bin .add (.t 39) (.c (.int .i64 1))⟩,
  ⟨some 39, none, false, .mv (.t 55)⟩]

def f_lease_Split_l15 : Abs.Cmd :=
  (.seq (.reg [0, 1, 6, 7, 8, 37, 38, 39, 40] f_lease_Split_r10) (.seq (.ite (.t 40) .nop (.exit 0)) (.seq (.blk 1 (.seq (.reg [0, 1, 6, 7, 8, 10, 37, 38, 39] f_lease_Split_r11) (.seq (.reg [0, 1, 6, 7, 8, 11, 37, 38, 39] f_lease_Split_r12) (.reg [0, 1, 6, 7, 8, 37, 38, 39] f_lease_Split_r13)))) (.reg [0, 1, 6, 7, 8, 37, 38, 39] f_lease_Split_r14))))

def f_lease_Split_r16 : List Abs.Op := [
  ⟨some 56, none, false, .mv (.t 1)⟩,
  ⟨some 57, none, false, .lenS (.t 56)⟩,
  ⟨some 58, none, false, .mks 1 8 [(.int .i64 0)] (.t 57) (.t 57)⟩,
  ⟨some 12, none, false, .mv (.t 58)⟩]

def f_lease_Split_r17 : List Abs.Op := [
  ⟨some 59, none, false, .mv (.t 7)⟩,
  ⟨some 60, none, false, .lenS (.t 59)⟩,
  ⟨some 61, none, false, .mv (.c (.int .i64 0))⟩]

def f_lease_Split_r18 : List Abs.Op := [
  ⟨some 62, none, false, .bin .lss (.t 61) (.t 60)⟩]

def f_lease_Split_r19 : List Abs.Op := [
  ⟨some 63, none, false, .mv (.t 61)⟩,
  ⟨some 64, none, false, .idxS 2 (.t 59) (.t 61)⟩,
  ⟨some 65, none, false, .ld true 2 (.t 64)⟩,
  ⟨some 14, none, false, .alcv [] [(.int .i64 0), (.int .i64 0)]⟩,
  ⟨some 13, none, false, .mv (.t 63)⟩,
  ⟨none, none, false, .stv 14 [] 2 14 (.t 65)⟩]

def f_lease_Split_r20 : List Abs.Op := [
  ⟨some 66, none, false, .mv (.t 12)⟩,
  ⟨some 67, none, false, .mv (.t 13)⟩,
  ⟨some 68, none, false, .fadr 0 (.t 14)⟩,
  ⟨some 69, none, false, .ldv 14 false 1 68⟩,
  ⟨some 70, none, false, .idxS 1 (.t 66) (.t 67)⟩,
  ⟨none, none, false, .st [] 1 (.t 70) (.t 69)⟩]

def f_lease_Split_r21 : List Abs.Op := [
  ⟨some 71, none, false, .bin .add (.t 61) (.c (.int .i64 1))⟩,
  ⟨some 61, none, false, .mv (.t 71)⟩]

def f_lease_Split_l22 : Abs.Cmd :=
  (.seq (.reg [7, 8, 12, 59, 60, 61, 62] f_lease_Split_r18) (.seq (.ite (.t 62) .nop (.exit 2)) (.seq (.blk 3 (.seq (.reg [7, 8, 12, 13, 14, 59, 60, 61] f_lease_Split_r19) (.reg [7, 8, 12, 59, 60, 61] f_lease_Split_r20))) (.reg [7, 8, 12, 59, 60, 61] f_lease_Split_r21))))

def f_lease_Split_r23 : List Abs.Op := [
  ⟨some 72, none, false, .mv (.t 7)⟩,
  ⟨some 73, none, false, .call false (.c (.fn i_lease_ranked_lease_portion [] [])) [(.t 72), (.c (.fn i_lease_Split_1 [] []))]⟩,
  ⟨some 74, none, false, .mv (.t 8)⟩,
  ⟨some 75, none, false, .slc 1 (.t 73) none (some (.t 74)) none⟩,
  ⟨some 76, none, false, .lenS (.t 75)⟩,
  ⟨some 77, none, false, .mv (.c (.int .i64 0))⟩]

def f_lease_Split_r24 : List Abs.Op := [
  ⟨some 78, none, false, .bin .lss (.t 77) (.t 76)⟩]

def f_lease_Split_r25 : List Abs.Op := [
  ⟨some 79, none, false, .idxS 1 (.t 75) (.t 77)⟩,
  ⟨some 80, none, false, .ld false 1 (.t 79)⟩,
  ⟨some 16, none, false, .mv (.t 80)⟩]

def f_lease_Split_r26 : List Abs.Op := [
  ⟨some 81, none, false, .mv (.t 12)⟩,
  ⟨some 82, none, false, .mv (.t 16)⟩,
  ⟨some 83, none, false, .idxS 1 (.t 81) (.t 82)⟩,
  ⟨some 84, none, false, .ld false 1 (.t 83)⟩,
  ⟨some 85, none, false, .bin .add (.t 84) (.c (.int .i64 1))⟩,
  ⟨some 86, none, false, .idxS 1 (.t 81) (.t 82)⟩,
  ⟨none, none, false, .st [] 1 (.t 86) (.t 85)⟩]

def f_lease_Split_r27 : List Abs.Op := [
  ⟨some 87, none, false, .bin .add (.t 77) (.c (.int .i64 1))⟩,
  ⟨some 77, none, false, .mv (.t 87)⟩]

def f_lease_Split_l28 : Abs.Cmd :=
  (.seq (.reg [12, 75, 76, 77, 78] f_lease_Split_r24) (.seq (.ite (.t 78) .nop (.exit 4)) (.seq (.blk 5 (.seq (.reg [12, 16, 75, 76, 77] f_lease_Split_r25) (.reg [12, 75, 76, 77] f_lease_Split_r26))) (.reg [12, 75, 76, 77] f_lease_Split_r27))))

def f_lease_Split_r29 : List Abs.Op := [
  ⟨some 88, none, false, .mv (.t 12)⟩,
  ⟨some 4, none, false, .mv (.t 88)⟩,
  ⟨some 5, none, false, .mv (.c (.int .i64 0))⟩]

def a_lease_Split : Ann := ⟨[(26, [4, 5]), (25, [12, 75, 76, 77]), (24, [12, 75, 76, 77]), (23, [12, 16, 75, 76, 77]), (22, [12, 75, 76, 77, 78]), (21, [12, 75, 76, 77]), (20, [7, 8, 12, 59, 60, 61]), (19, [7, 8, 12, 59, 60, 61]), (18, [7, 8, 12, 13, 14, 59, 60, 61]), (17, [7, 8, 12, 59, 60, 61, 62]), (16, [7, 8, 12, 59, 60, 61]), (15, [7, 8, 12]), (14, [0, 1, 6, 7, 8, 37, 38, 39]), (13, [0, 1, 6, 7, 8, 37, 38, 39]), (12, [0, 1, 6, 7, 8, 11, 37, 38, 39]), (11, [0, 1, 6, 7, 8, 10, 37, 38, 39]), (10, [0, 1, 6, 7, 8, 37, 38, 39, 40]), (9, [0, 1, 6, 7, 8, 37, 38, 39]), (8, [0, 1, 6, 7, 8]), (7, [0, 1, 6, 7]), (6, [0, 1, 6]), (5, [4, 5]), (4, [0, 1, 33]), (3, [0, 1]), (2, [4, 5]), (1, [0, 1, 19]), (0, [0, 1])], [(4, [12, 75, 76, 77]), (2, [7, 8, 12, 59, 60, 61]), (0, [0, 1, 6, 7, 8, 37, 38, 39])], [], [7, 11, 14], [11, 14], [], [], [(15, [7])], [], []⟩
def f_lease_Split : Abs.Fn := ⟨2, [.t 4, .t 5],
  (.seq (.reg [0, 1] f_lease_Split_r0) (.seq (.seq (.reg [0, 1, 19] f_lease_Split_r1) (.ite (.t 19) (.seq (.reg [4, 5] f_lease_Split_r2) .ret) .nop)) (.seq (.reg [0, 1] f_lease_Split_r3) (.seq (.seq (.reg [0, 1, 33] f_lease_Split_r4) (.ite (.t 33) (.seq (.reg [4, 5] f_lease_Split_r5) .ret) .nop)) (.seq (.reg [0, 1, 6] f_lease_Split_r6) (.seq (.reg [0, 1, 6, 7] f_lease_Split_r7) (.seq (.reg [0, 1, 6, 7, 8] f_lease_Split_r8) (.seq (.seq (.reg [0, 1, 6, 7, 8, 37, 38, 39] f_lease_Split_r9) (.blk 0 (.loop [0, 1, 6, 7, 8, 37, 38, 39] false f_lease_Split_l15))) (.seq (.seq (.frz [7]) (.reg [7, 8, 12] f_lease_Split_r16)) (.seq (.seq (.reg [7, 8, 12, 59, 60, 61] f_lease_Split_r17) (.blk 2 (.loop [7, 8, 12, 59, 60, 61] false f_lease_Split_l22))) (.seq (.seq (.reg [12, 75, 76, 77] f_lease_Split_r23) (.blk 4 (.loop [12, 75, 76, 77] false f_lease_Split_l28))) (.seq (.reg [4, 5] f_lease_Split_r29) .ret))))))))))))⟩

theorem e_lease_Split_r0 : type_of% f_lease_Split_r0.eq_1 := by_rfl f_lease_Split_r0.eq_1
theorem e_lease_Split_r1 : type_of% f_lease_Split_r1.eq_1 := by_rfl f_lease_Split_r1.eq_1
theorem e_lease_Split_r2 : type_of% f_lease_Split_r2.eq_1 := by_rfl f_lease_Split_r2.eq_1
theorem e_lease_Split_r3 : type_of% f_lease_Split_r3.eq_1 := by_rfl f_lease_Split_r3.eq_1
theorem e_lease_Split_r4 : type_of% f_lease_Split_r4.eq_1 := by_rfl f_lease_Split_r4.eq_1
theorem e_lease_Split_r5 : type_of% f_lease_Split_r5.eq_1 := by_rfl f_lease_Split_r5.eq_1
theorem e_lease_Split_r6 : type_of% f_lease_Split_r6.eq_1 := by_rfl f_lease_Split_r6.eq_1
theorem e_lease_Split_r7 : type_of% f_lease_Split_r7.eq_1 := by_rfl f_lease_Split_r7.eq_1
theorem e_lease_Split_r8 : type_of% f_lease_Split_r8.eq_1 := by_rfl f_lease_Split_r8.eq_1
theorem e_lease_Split_r9 : type_of% f_lease_Split_r9.eq_1 := by_rfl f_lease_Split_r9.eq_1
theorem e_lease_Split_r10 : type_of% f_lease_Split_r10.eq_1 := by_rfl f_lease_Split_r10.eq_1
theorem e_lease_Split_r11 : type_of% f_lease_Split_r11.eq_1 := by_rfl f_lease_Split_r11.eq_1
theorem e_lease_Split_r12 : type_of% f_lease_Split_r12.eq_1 := by_rfl f_lease_Split_r12.eq_1
theorem e_lease_Split_r13 : type_of% f_lease_Split_r13.eq_1 := by_rfl f_lease_Split_r13.eq_1
theorem e_lease_Split_r14 : type_of% f_lease_Split_r14.eq_1 := by_rfl f_lease_Split_r14.eq_1
theorem e_lease_Split_l15 : type_of% f_lease_Split_l15.eq_1 := by_rfl f_lease_Split_l15.eq_1
theorem e_lease_Split_r16 : type_of% f_lease_Split_r16.eq_1 := by_rfl f_lease_Split_r16.eq_1
theorem e_lease_Split_r17 : type_of% f_lease_Split_r17.eq_1 := by_rfl f_lease_Split_r17.eq_1
theorem e_lease_Split_r18 : type_of% f_lease_Split_r18.eq_1 := by_rfl f_lease_Split_r18.eq_1
theorem e_lease_Split_r19 : type_of% f_lease_Split_r19.eq_1 := by_rfl f_lease_Split_r19.eq_1
theorem e_lease_Split_r20 : type_of% f_lease_Split_r20.eq_1 := by_rfl f_lease_Split_r20.eq_1
theorem e_lease_Split_r21 : type_of% f_lease_Split_r21.eq_1 := by_rfl f_lease_Split_r21.eq_1
theorem e_lease_Split_l22 : type_of% f_lease_Split_l22.eq_1 := by_rfl f_lease_Split_l22.eq_1
theorem e_lease_Split_r23 : type_of% f_lease_Split_r23.eq_1 := by_rfl f_lease_Split_r23.eq_1
theorem e_lease_Split_r24 : type_of% f_lease_Split_r24.eq_1 := by_rfl f_lease_Split_r24.eq_1
theorem e_lease_Split_r25 : type_of% f_lease_Split_r25.eq_1 := by_rfl f_lease_Split_r25.eq_1
theorem e_lease_Split_r26 : type_of% f_lease_Split_r26.eq_1 := by_rfl f_lease_Split_r26.eq_1
theorem e_lease_Split_r27 : type_of% f_lease_Split_r27.eq_1 := by_rfl f_lease_Split_r27.eq_1
theorem e_lease_Split_l28 : type_of% f_lease_Split_l28.eq_1 := by_rfl f_lease_Split_l28.eq_1
theorem e_lease_Split_r29 : type_of% f_lease_Split_r29.eq_1 := by_rfl f_lease_Split_r29.eq_1
theorem e_lease_Split : type_of% f_lease_Split.eq_1 := by_rfl f_lease_Split.eq_1
theorem ok_lease_Split : fnC Try.prog a_lease_Split Try.f13 = some f_lease_Split := by kernel_rfl

/-! 14 fumarole/fumarolelaw11.list -/
def f_law11_list_r0 : List Abs.Op := [
  ⟨some 2, none, false, .nilb 1⟩]

def f_law11_list_r1 : List Abs.Op := [
  ⟨some 3, none, false, .bsm 0 1 [] []⟩,
  ⟨some 4, none, false, .mv (.t 0)⟩,
  ⟨some 5, none, false, .app 1 8 (.t 3) (.t 4)⟩,
  ⟨some 2, none, false, .mv (.t 5)⟩]

def a_law11_list : Ann := ⟨[(1, [2]), (0, [0])], [], [], [2, 3], [], [], [], [], [], []⟩
def f_law11_list : Abs.Fn := ⟨1, [.t 2],
  (.seq (.reg [0] f_law11_list_r0) (.seq (.reg [2] f_law11_list_r1) .ret))⟩

theorem e_law11_list_r0 : type_of% f_law11_list_r0.eq_1 := by_rfl f_law11_list_r0.eq_1
theorem e_law11_list_r1 : type_of% f_law11_list_r1.eq_1 := by_rfl f_law11_list_r1.eq_1
theorem e_law11_list : type_of% f_law11_list.eq_1 := by_rfl f_law11_list.eq_1
theorem ok_law11_list : fnC Try.prog a_law11_list Try.f14 = some f_law11_list := by kernel_rfl

/-! 15 fumarole/fumaroleref11.In -/
def f_ref11_In_r0 : List Abs.Op := [
  ⟨some 6, none, false, .mv (.c (.bool false))⟩]

def f_ref11_In_r1 : List Abs.Op := [
  ⟨some 7, none, false, .mv (.t 0)⟩,
  ⟨some 8, none, false, .mv (.t 1)⟩,
  ⟨some 9, none, false, .bin .geq (.t 7) (.t 8)⟩,
  ⟨some 10, none, false, .mv (.t 9)⟩,
  ⟨some 11, some (10, true), false, .mv (.t 0)⟩,
  ⟨some 12, some (10, true), false, .mv (.t 2)⟩,
  ⟨some 13, some (10, true), false, .bin .leq (.t 11) (.t 12)⟩,
  ⟨some 14, none, false, .pick (.t 10) (.t 13) (.c (.bool false))⟩,
  ⟨some 6, none, false, .mv (.t 14)⟩]

def a_ref11_In : Ann := ⟨[(1, [6]), (0, [0, 1, 2])], [], [], [], [], [], [], [], [], []⟩
def f_ref11_In : Abs.Fn := ⟨3, [.t 6],
  (.seq (.reg [0, 1, 2] f_ref11_In_r0) (.seq (.reg [6] f_ref11_In_r1) .ret))⟩

theorem e_ref11_In_r0 : type_of% f_ref11_In_r0.eq_1 := by_rfl f_ref11_In_r0.eq_1
theorem e_ref11_In_r1 : type_of% f_ref11_In_r1.eq_1 := by_rfl f_ref11_In_r1.eq_1
theorem e_ref11_In : type_of% f_ref11_In.eq_1 := by_rfl f_ref11_In.eq_1
theorem ok_ref11_In : fnC Try.prog a_ref11_In Try.f15 = some f_ref11_In := by kernel_rfl

/-! 16 fumarole/fumaroleref11.Weights -/
def f_ref11_Weights_r0 : List Abs.Op := [
  ⟨some 2, none, false, .mv (.c (.bool false))⟩]

def f_ref11_Weights_r1 : List Abs.Op := [
  ⟨some 3, none, false, .mv (.c (.int .i64 0))⟩]

def f_ref11_Weights_r2 : List Abs.Op := [
  ⟨some 4, none, false, .mv (.c (.int .i64 0))⟩]

def f_ref11_Weights_r3 : List Abs.Op := [
  ⟨some 5, none, false, .mv (.t 4)⟩,
  ⟨some 6, none, false, .mv (.t 0)⟩,
  ⟨some 7, none, false, .lenS (.t 6)⟩,
  ⟨some 8, none, false, .bin .lss (.t 5) (.t 7)⟩]

def f_ref11_Weights_r4 : List Abs.Op := [
  ⟨some 11, none, false, .mv (.t 0)⟩,
  ⟨some 12, none, false, .mv (.t 4)⟩,
  ⟨some 13, none, false, .idxS 1 (.t 11) (.t 12)⟩,
  ⟨some 14, none, false, .ld false 1 (.t 13)⟩,
  ⟨some 15, none, false, .call false (.c (.fn i_ref11_In [] [])) [(.t 14), (.c (.int .i64 0)), (.c (.int .i64 1000000000000))]⟩,
  ⟨some 16, none, false, .un .not (.t 15)⟩]

def f_ref11_Weights_r5 : List Abs.Op := [
  ⟨some 2, none, false, .mv (.c (.bool false))⟩]

def f_ref11_Weights_r6 : List Abs.Op := [
  ⟨some 17, none, false, .mv (.t 3)⟩,
  ⟨some 18, none, false, .mv (.t 0)⟩,
  ⟨some 19, none, false, .mv (.t 4)⟩,
  ⟨some 20, none, false, .idxS 1 (.t 18) (.t 19)⟩,
  ⟨some 21, none, false, .ld false 1 (.t 20)⟩,
  ⟨some 22, none, false, .bin .add (.t 17) (.t 21)⟩,
  ⟨some 3, none, false, .mv (.t 22)⟩]

def f_ref11_Weights_r7 : List Abs.Op := [
  ⟨some 9, none, false, .mv (.t 4)⟩,
  ⟨some 10, none, false, .bin .add (.t 9) (.c (.int .i64 1))⟩,
  ⟨some 4, none, false, .mv (.t 10)⟩]

def f_ref11_Weights_l8 : Abs.Cmd :=
  (.seq (.seq (.reg [0, 3, 4, 8] f_ref11_Weights_r3) (.ite (.t 8) .nop (.exit 0))) (.seq (.blk 1 (.seq (.seq (.reg [0, 3, 4, 16] f_ref11_Weights_r4) (.ite (.t 16) (.seq (.reg [2] f_ref11_Weights_r5) .ret) .nop)) (.reg [0, 3, 4] f_ref11_Weights_r6))) (.reg [0, 3, 4] f_ref11_Weights_r7)))

def f_ref11_Weights_r9 : List Abs.Op := [
  ⟨some 23, none, false, .mv (.t 0)⟩,
  ⟨some 24, none, false, .lenS (.t 23)⟩,
  ⟨some 25, none, false, .bin .geq (.t 24) (.c (.int .i64 1))⟩,
  ⟨some 26, none, false, .mv (.t 25)⟩,
  ⟨some 27, some (26, true), false, .mv (.t 0)⟩,
  ⟨some 28, some (26, true), false, .lenS (.t 27)⟩,
  ⟨some 29, some (26, true), false, .bin .leq (.t 28) (.c (.int .i64 8))⟩,
  ⟨some 30, none, false, .pick (.t 26) (.t 29) (.c (.bool false))⟩,
  ⟨some 31, none, false, .mv (.t 30)⟩,
  ⟨some 32, some (31, true), false, .mv (.t 3)⟩,
  ⟨some 33, some (31, true), false, .bin .gtr (.t 32) (.c (.int .i64 0))⟩,
  ⟨some 34, none, false, .pick (.t 31) (.t 33) (.c (.bool false))⟩,
  ⟨some 2, none, false, .mv (.t 34)⟩]

def a_ref11_Weights : Ann := ⟨[(8, [2]), (4, [0, 3, 4]), (7, [0, 3, 4]), (6, [2]), (5, [0, 3, 4, 16]), (3, [0, 3, 4, 8]), (2, [0, 3, 4]), (1, [0, 3]), (0, [0])], [(0, [0, 3, 4])], [], [], [], [], [], [], [], []⟩
def f_ref11_Weights : Abs.Fn := ⟨1, [.t 2],
  (.seq (.reg [0] f_ref11_Weights_r0) (.seq (.reg [0, 3] f_ref11_Weights_r1) (.seq (.seq (.reg [0, 3, 4] f_ref11_Weights_r2) (.blk 0 (.loop [0, 3, 4] false f_ref11_Weights_l8))) (.seq (.reg [2] f_ref11_Weights_r9) .ret))))⟩

theorem e_ref11_Weights_r0 : type_of% f_ref11_Weights_r0.eq_1 := by_rfl f_ref11_Weights_r0.eq_1
theorem e_ref11_Weights_r1 : type_of% f_ref11_Weights_r1.eq_1 := by_rfl f_ref11_Weights_r1.eq_1
theorem e_ref11_Weights_r2 : type_of% f_ref11_Weights_r2.eq_1 := by_rfl f_ref11_Weights_r2.eq_1
theorem e_ref11_Weights_r3 : type_of% f_ref11_Weights_r3.eq_1 := by_rfl f_ref11_Weights_r3.eq_1
theorem e_ref11_Weights_r4 : type_of% f_ref11_Weights_r4.eq_1 := by_rfl f_ref11_Weights_r4.eq_1
theorem e_ref11_Weights_r5 : type_of% f_ref11_Weights_r5.eq_1 := by_rfl f_ref11_Weights_r5.eq_1
theorem e_ref11_Weights_r6 : type_of% f_ref11_Weights_r6.eq_1 := by_rfl f_ref11_Weights_r6.eq_1
theorem e_ref11_Weights_r7 : type_of% f_ref11_Weights_r7.eq_1 := by_rfl f_ref11_Weights_r7.eq_1
theorem e_ref11_Weights_l8 : type_of% f_ref11_Weights_l8.eq_1 := by_rfl f_ref11_Weights_l8.eq_1
theorem e_ref11_Weights_r9 : type_of% f_ref11_Weights_r9.eq_1 := by_rfl f_ref11_Weights_r9.eq_1
theorem e_ref11_Weights : type_of% f_ref11_Weights.eq_1 := by_rfl f_ref11_Weights.eq_1
theorem ok_ref11_Weights : fnC Try.prog a_ref11_Weights Try.f16 = some f_ref11_Weights := by kernel_rfl

/-! 17 fumarole/fumarolelaw11.ints -/
def f_law11_ints_r0 : List Abs.Op := [
  ⟨some 4, none, false, .mv (.c (.bool false))⟩]

def f_law11_ints_r1 : List Abs.Op := [
  ⟨some 6, none, false, .mv (.t 0)⟩,
  ⟨some 7, none, false, .lenS (.t 6)⟩,
  ⟨some 8, none, false, .mv (.t 1)⟩,
  ⟨some 9, none, false, .lenS (.t 8)⟩,
  ⟨some 10, none, false, .bin .neq (.t 7) (.t 9)⟩]

def f_law11_ints_r2 : List Abs.Op := [
  ⟨some 4, none, false, .mv (.c (.bool false))⟩]

def f_law11_ints_r3 : List Abs.Op := [
  ⟨some 5, none, false, .mv (.c (.int .i64 0))⟩]

def f_law11_ints_r4 : List Abs.Op := [
  ⟨some 11, none, false, .mv (.t 5)⟩,
  ⟨some 12, none, false, .mv (.t 0)⟩,
  ⟨some 13, none, false, .lenS (.t 12)⟩,
  ⟨some 14, none, false, .bin .lss (.t 11) (.t 13)⟩]

def f_law11_ints_r5 : List Abs.Op := [
  ⟨some 17, none, true, .mv (.t 0)⟩,
  ⟨some 18, none, true, .mv (.t 5)⟩,
  ⟨some 19, none, true, .idxS 1 (.t 17) (.t 18)⟩,
  ⟨some 20, none, true, .ld false 1 (.t 19)⟩,
  ⟨some 21, none, true, .mv (.t 1)⟩,
  ⟨some 22, none, true, .mv (.t 5)⟩,
  ⟨some 23, none, true, .idxS 1 (.t 21) (.t 22)⟩,
  ⟨some 24, none, true, .ld false 1 (.t 23)⟩,
  ⟨some 25, none, false, .bin .neq (.t 20) (.t 24)⟩]

def f_law11_ints_r6 : List Abs.Op := [
  ⟨some 4, none, false, .mv (.c (.bool false))⟩]

def f_law11_ints_r7 : List Abs.Op := [
  ⟨some 15, none, false, .mv (.t 5)⟩,
  ⟨some 16, none, false, .bin .add (.t 15) (.c (.int .i64 1))⟩,
  ⟨some 5, none, false, .mv (.t 16)⟩]

def f_law11_ints_l8 : Abs.Cmd :=
  (.seq (.seq (.reg [0, 1, 5, 14] f_law11_ints_r4) (.ite (.t 14) .nop (.exit 0))) (.seq (.blk 1 (.seq (.reg [0, 1, 5, 25] f_law11_ints_r5) (.ite (.t 25) (.seq (.reg [4] f_law11_ints_r6) .ret) .nop))) (.reg [0, 1, 5] f_law11_ints_r7)))

def f_law11_ints_r9 : List Abs.Op := [
  ⟨some 4, none, false, .mv (.c (.bool true))⟩]

def a_law11_ints : Ann := ⟨[(8, [4]), (5, [0, 1, 5]), (7, [4]), (6, [0, 1, 5, 25]), (4, [0, 1, 5, 14]), (3, [0, 1, 5]), (2, [4]), (1, [0, 1, 10]), (0, [0, 1])], [(0, [0, 1, 5])], [], [], [], [], [], [], [], []⟩
def f_law11_ints : Abs.Fn := ⟨2, [.t 4],
  (.seq (.reg [0, 1] f_law11_ints_r0) (.seq (.seq (.reg [0, 1, 10] f_law11_ints_r1) (.ite (.t 10) (.seq (.reg [4] f_law11_ints_r2) .ret) .nop)) (.seq (.seq (.reg [0, 1, 5] f_law11_ints_r3) (.blk 0 (.loop [0, 1, 5] false f_law11_ints_l8))) (.seq (.reg [4] f_law11_ints_r9) .ret))))⟩

theorem e_law11_ints_r0 : type_of% f_law11_ints_r0.eq_1 := by_rfl f_law11_ints_r0.eq_1
theorem e_law11_ints_r1 : type_of% f_law11_ints_r1.eq_1 := by_rfl f_law11_ints_r1.eq_1
theorem e_law11_ints_r2 : type_of% f_law11_ints_r2.eq_1 := by_rfl f_law11_ints_r2.eq_1
theorem e_law11_ints_r3 : type_of% f_law11_ints_r3.eq_1 := by_rfl f_law11_ints_r3.eq_1
theorem e_law11_ints_r4 : type_of% f_law11_ints_r4.eq_1 := by_rfl f_law11_ints_r4.eq_1
theorem e_law11_ints_r5 : type_of% f_law11_ints_r5.eq_1 := by_rfl f_law11_ints_r5.eq_1
theorem e_law11_ints_r6 : type_of% f_law11_ints_r6.eq_1 := by_rfl f_law11_ints_r6.eq_1
theorem e_law11_ints_r7 : type_of% f_law11_ints_r7.eq_1 := by_rfl f_law11_ints_r7.eq_1
theorem e_law11_ints_l8 : type_of% f_law11_ints_l8.eq_1 := by_rfl f_law11_ints_l8.eq_1
theorem e_law11_ints_r9 : type_of% f_law11_ints_r9.eq_1 := by_rfl f_law11_ints_r9.eq_1
theorem e_law11_ints : type_of% f_law11_ints.eq_1 := by_rfl f_law11_ints.eq_1
theorem ok_law11_ints : fnC Try.prog a_law11_ints Try.f17 = some f_law11_ints := by kernel_rfl

/-! 18 fumarole/fumaroleref11.Split -/
def f_ref11_Split_r0 : List Abs.Op := [
  ⟨some 4, none, false, .mv (.c .nils)⟩]

def f_ref11_Split_r1 : List Abs.Op := [
  ⟨some 5, none, false, .mv (.c (.int .i64 0))⟩]

def f_ref11_Split_r2 : List Abs.Op := [
  ⟨some 6, none, false, .mv (.c (.int .i64 0))⟩]

def f_ref11_Split_r3 : List Abs.Op := [
  ⟨some 16, none, false, .mv (.t 6)⟩,
  ⟨some 17, none, false, .mv (.t 1)⟩,
  ⟨some 18, none, false, .lenS (.t 17)⟩,
  ⟨some 19, none, false, .bin .lss (.t 16) (.t 18)⟩]

def f_ref11_Split_r4 : List Abs.Op := [
  ⟨some 22, none, false, .mv (.t 5)⟩,
  ⟨some 23, none, false, .mv (.t 1)⟩,
  ⟨some 24, none, false, .mv (.t 6)⟩,
  ⟨some 25, none, false, .idxS 1 (.t 23) (.t 24)⟩,
  ⟨some 26, none, false, .ld false 1 (.t 25)⟩,
  ⟨some 27, none, false, .bin .add (.t 22) (.t 26)⟩,
  ⟨some 5, none, false, .mv (.t 27)⟩]

def f_ref11_Split_r5 : List Abs.Op := [
  ⟨some 20, none, false, .mv (.t 6)⟩,
  ⟨some 21, none, false, .bin .add (.t 20) (.c (.int .i64 1))⟩,
  ⟨some 6, none, false, .mv (.t 21)⟩]

def f_ref11_Split_l6 : Abs.Cmd :=
  (.seq (.seq (.reg [0, 1, 5, 6, 19] f_ref11_Split_r3) (.ite (.t 19) .nop (.exit 0))) (.seq (.blk 1 (.reg [0, 1, 5, 6] f_ref11_Split_r4)) (.reg [0, 1, 5, 6] f_ref11_Split_r5)))

def f_ref11_Split_r7 : List Abs.Op := [
  ⟨some 7, none, false, .nilb 1⟩,
  ⟨some 8, none, false, .nilb 1⟩]

def f_ref11_Split_r8 : List Abs.Op := [
  ⟨some 28, none, false, .mv (.t 0)⟩,
  ⟨some 9, none, false, .mv (.t 28)⟩]

def f_ref11_Split_r9 : List Abs.Op := [
  ⟨some 10, none, false, .mv (.c (.int .i64 0))⟩]

def f_ref11_Split_r10 : List Abs.Op := [
  ⟨some 29, none, false, .mv (.t 10)⟩,
  ⟨some 30, none, false, .mv (.t 1)⟩,
  ⟨some 31, none, false, .lenS (.t 30)⟩,
  ⟨some 32, none, false, .bin .lss (.t 29) (.t 31)⟩]

def f_ref11_Split_r11 : List Abs.Op := [
  ⟨some 36, none, false, .mv (.t 0)⟩,
  ⟨some 37, none, false, .mv (.t 1)⟩,
  ⟨some 38, none, false, .mv (.t 10)⟩,
  ⟨some 39, none, false, .idxS 1 (.t 37) (.t 38)⟩,
  ⟨some 40, none, false, .ld false 1 (.t 39)⟩,
  ⟨some 41, none, false, .mv (.t 5)⟩,
  ⟨some 42, none, false, .call false (.c (.fn i_ref11_part [] [])) [(.t 36), (.t 40), (.t 41)]⟩,
  ⟨some 35, none, false, .mv (.t 42)⟩,
  ⟨some 43, none, false, .ext (.t 35) 0⟩,
  ⟨some 44, none, false, .ext (.t 35) 1⟩,
  ⟨some 11, none, false, .mv (.t 43)⟩,
  ⟨some 12, none, false, .mv (.t 44)⟩]

def f_ref11_Split_r12 : List Abs.Op := [
  ⟨some 45, none, false, .mv (.t 7)⟩,
  ⟨some 46, none, false, .mv (.t 11)⟩,
  ⟨some 47, none, false, .bsi 1 1 [(.int .i64 0)] [(0, 1, (.t 46))]⟩,
  ⟨some 48, none, false, .app 1 8 (.t 45) (.t 47)⟩,
  ⟨some 49, none, false, .mv (.t 8)⟩,
  ⟨some 50, none, false, .mv (.t 12)⟩,
  ⟨some 51, none, false, .bsi 1 1 [(.int .i64 0)] [(0, 1, (.t 50))]⟩,
  ⟨some 52, none, false, .app 1 8 (.t 49) (.t 51)⟩,
  ⟨some 7, none, false, .mv (.t 48)⟩,
  ⟨some 8, none, false, .mv (.t 52)⟩]

def f_ref11_Split_r13 : List Abs.Op := [
  ⟨some 53, none, false, .mv (.t 9)⟩,
  ⟨some 54, none, false, .mv (.t 11)⟩,
  ⟨some 55, none, false, .bin .sub (.t 53) (.t 54)⟩,
  ⟨some 9, none, false, .mv (.t 55)⟩]

def f_ref11_Split_r14 : List Abs.Op := [
  ⟨some 33, none, false, .mv (.t 10)⟩,
  ⟨some 34, none, false, .bin .add (.t 33) (.c (.int .i64 1))⟩,
  ⟨some 10, none, false, .mv (.t 34)⟩]

def f_ref11_Split_l15 : Abs.Cmd :=
  (.seq (.seq (.reg [0, 1, 5, 7, 8, 9, 10, 32] f_ref11_Split_r10) (.ite (.t 32) .nop (.exit 2))) (.seq (.blk 3 (.seq (.reg [0, 1, 5, 7, 8, 9, 10, 11, 12] f_ref11_Split_r11) (.seq (.reg [0, 1, 5, 7, 8, 9, 10, 11] f_ref11_Split_r12) (.reg [0, 1, 5, 7, 8, 9, 10] f_ref11_Split_r13)))) (.reg [0, 1, 5, 7, 8, 9, 10] f_ref11_Split_r14)))

def f_ref11_Split_r16 : List Abs.Op := [
  ⟨some 56, none, false, .mv (.t 1)⟩,
  ⟨some 57, none, false, .lenS (.t 56)⟩,
  ⟨some 58, none, false, .mks 1 1 [(.bool false)] (.t 57) (.t 57)⟩,
  ⟨some 13, none, false, .mv (.t 58)⟩]

def f_ref11_Split_r17 : List Abs.Op := [
  ⟨some 59, none, false, .mv (.t 9)⟩,
  ⟨some 60, none, false, .bin .gtr (.t 59) (.c (.int .i64 0))⟩]

def f_ref11_Split_r18 : List Abs.Op := [
  ⟨some 14, none, false, .mv (.c (.int .i64 (-1)))⟩]

def f_ref11_Split_r19 : List Abs.Op := [
  ⟨some 15, none, false, .mv (.c (.int .i64 0))⟩]

def f_ref11_Split_r20 : List Abs.Op := [
  ⟨some 63, none, false, .mv (.t 15)⟩,
  ⟨some 64, none, false, .mv (.t 1)⟩,
  ⟨some 65, none, false, .lenS (.t 64)⟩,
  ⟨some 66, none, false, .bin .lss (.t 63) (.t 65)⟩]

def f_ref11_Split_r21 : List Abs.Op := [
  ⟨some 69, none, true, .mv (.t 13)⟩,
  ⟨some 70, none, true, .mv (.t 15)⟩,
  ⟨some 71, none, true, .idxS 1 (.t 69) (.t 70)⟩,
  ⟨some 72, none, true, .ld false 1 (.t 71)⟩,
  ⟨some 73, none, true, .un .not (.t 72)⟩,
  ⟨some 74, none, true, .mv (.t 73)⟩,
  ⟨some 75, some (74, true), true, .mv (.t 14)⟩,
  ⟨some 76, some (74, true), true, .bin .lss (.t 75) (.c (.int .i64 0))⟩,
  ⟨some 77, some (74, true), true, .mv (.t 76)⟩,
  ⟨some 78, some (77, false), true, .mv (.t 8)⟩,
  ⟨some 79, some (77, false), true, .mv (.t 15)⟩,
  ⟨some 80, some (77, false), true, .idxS 1 (.t 78) (.t 79)⟩,
  ⟨some 81, some (77, false), true, .ld false 1 (.t 80)⟩,
  ⟨some 82, some (77, false), true, .mv (.t 8)⟩,
  ⟨some 83, some (77, false), true, .mv (.t 14)⟩,
  ⟨some 84, some (77, false), true, .idxS 1 (.t 82) (.t 83)⟩,
  ⟨some 85, some (77, false), true, .ld false 1 (.t 84)⟩,
  ⟨some 86, some (77, false), false, .bin .gtr (.t 81) (.t 85)⟩,
  ⟨some 87, some (74, true), false, .pick (.t 77) (.c (.bool true)) (.t 86)⟩,
  ⟨some 88, none, false, .pick (.t 74) (.t 87) (.c (.bool false))⟩]

def f_ref11_Split_r22 : List Abs.Op := [
  ⟨some 89, none, false, .mv (.t 15)⟩,
  ⟨some 14, none, false, .mv (.t 89)⟩]

def f_ref11_Split_r23 : List Abs.Op := [
  ⟨some 67, none, false, .mv (.t 15)⟩,
  ⟨some 68, none, false, .bin .add (.t 67) (.c (.int .i64 1))⟩,
  ⟨some 15, none, false, .mv (.t 68)⟩]

def f_ref11_Split_l24 : Abs.Cmd :=
  (.seq (.seq (.reg [1, 7, 8, 9, 13, 14, 15, 66] f_ref11_Split_r20) (.ite (.t 66) .nop (.exit 6))) (.seq (.blk 7 (.seq (.reg [1, 7, 8, 9, 13, 14, 15, 88] f_ref11_Split_r21) (.ite (.t 88) (.reg [1, 7, 8, 9, 13, 14, 15] f_ref11_Split_r22) .nop))) (.reg [1, 7, 8, 9, 13, 14, 15] f_ref11_Split_r23)))

def f_ref11_Split_r25 : List Abs.Op := [
  ⟨some 90, none, false, .mv (.t 13)⟩,
  ⟨some 91, none, false, .mv (.t 14)⟩,
  ⟨some 92, none, false, .idxS 1 (.t 90) (.t 91)⟩,
  ⟨none, none, false, .st [] 1 (.t 92) (.c (.bool true))⟩]

def f_ref11_Split_r26 : List Abs.Op := [
  ⟨some 93, none, false, .mv (.t 7)⟩,
  ⟨some 94, none, false, .mv (.t 14)⟩,
  ⟨some 95, none, false, .idxS 1 (.t 93) (.t 94)⟩,
  ⟨some 96, none, false, .ld false 1 (.t 95)⟩,
  ⟨some 97, none, false, .bin .add (.t 96) (.c (.int .i64 1))⟩,
  ⟨some 98, none, false, .idxS 1 (.t 93) (.t 94)⟩,
  ⟨none, none, false, .st [] 1 (.t 98) (.t 97)⟩]

def f_ref11_Split_r27 : List Abs.Op := [
  ⟨some 61, none, false, .mv (.t 9)⟩,
  ⟨some 62, none, false, .bin .sub (.t 61) (.c (.int .i64 1))⟩,
  ⟨some 9, none, false, .mv (.t 62)⟩]

def f_ref11_Split_l28 : Abs.Cmd :=
  (.seq (.seq (.reg [1, 7, 8, 9, 13, 60] f_ref11_Split_r17) (.ite (.t 60) .nop (.exit 4))) (.seq (.blk 5 (.seq (.reg [1, 7, 8, 9, 13, 14] f_ref11_Split_r18) (.seq (.seq (.reg [1, 7, 8, 9, 13, 14, 15] f_ref11_Split_r19) (.blk 6 (.loop [1, 7, 8, 9, 13, 14, 15] false f_ref11_Split_l24))) (.seq (.reg [1, 7, 8, 9, 13, 14] f_ref11_Split_r25) (.reg [1, 7, 8, 9, 13] f_ref11_Split_r26))))) (.reg [1, 7, 8, 9, 13] f_ref11_Split_r27)))

def f_ref11_Split_r29 : List Abs.Op := [
  ⟨some 99, none, false, .mv (.t 7)⟩,
  ⟨some 4, none, false, .mv (.t 99)⟩]

def a_ref11_Split : Ann := ⟨[(25, [4]), (16, [1, 7, 8, 9, 13]), (24, [1, 7, 8, 9, 13]), (23, [1, 7, 8, 9, 13, 14]), (20, [1, 7, 8, 9, 13, 14, 15]), (22, [1, 7, 8, 9, 13, 14, 15]), (21, [1, 7, 8, 9, 13, 14, 15, 88]), (19, [1, 7, 8, 9, 13, 14, 15, 66]), (18, [1, 7, 8, 9, 13, 14, 15]), (17, [1, 7, 8, 9, 13, 14]), (15, [1, 7, 8, 9, 13, 60]), (14, [1, 7, 8, 9, 13]), (10, [0, 1, 5, 7, 8, 9, 10]), (13, [0, 1, 5, 7, 8, 9, 10]), (12, [0, 1, 5, 7, 8, 9, 10, 11]), (11, [0, 1, 5, 7, 8, 9, 10, 11, 12]), (9, [0, 1, 5, 7, 8, 9, 10, 32]), (8, [0, 1, 5, 7, 8, 9, 10]), (7, [0, 1, 5, 7, 8, 9]), (6, [0, 1, 5, 7, 8]), (4, [0, 1, 5, 6]), (5, [0, 1, 5, 6]), (3, [0, 1, 5, 6, 19]), (2, [0, 1, 5, 6]), (1, [0, 1, 5]), (0, [0, 1])], [(6, [1, 7, 8, 9, 13, 14, 15]), (4, [1, 7, 8, 9, 13]), (2, [0, 1, 5, 7, 8, 9, 10]), (0, [0, 1, 5, 6])], [], [7, 8], [], [], [], [], [], []⟩
def f_ref11_Split : Abs.Fn := ⟨2, [.t 4],
  (.seq (.reg [0, 1] f_ref11_Split_r0) (.seq (.reg [0, 1, 5] f_ref11_Split_r1) (.seq (.seq (.reg [0, 1, 5, 6] f_ref11_Split_r2) (.blk 0 (.loop [0, 1, 5, 6] false f_ref11_Split_l6))) (.seq (.reg [0, 1, 5, 7, 8] f_ref11_Split_r7) (.seq (.reg [0, 1, 5, 7, 8, 9] f_ref11_Split_r8) (.seq (.seq (.reg [0, 1, 5, 7, 8, 9, 10] f_ref11_Split_r9) (.blk 2 (.loop [0, 1, 5, 7, 8, 9, 10] false f_ref11_Split_l15))) (.seq (.reg [1, 7, 8, 9, 13] f_ref11_Split_r16) (.seq (.blk 4 (.loop [1, 7, 8, 9, 13] false f_ref11_Split_l28)) (.seq (.reg [4] f_ref11_Split_r29) .ret)))))))))⟩

theorem e_ref11_Split_r0 : type_of% f_ref11_Split_r0.eq_1 := by_rfl f_ref11_Split_r0.eq_1
theorem e_ref11_Split_r1 : type_of% f_ref11_Split_r1.eq_1 := by_rfl f_ref11_Split_r1.eq_1
theorem e_ref11_Split_r2 : type_of% f_ref11_Split_r2.eq_1 := by_rfl f_ref11_Split_r2.eq_1
theorem e_ref11_Split_r3 : type_of% f_ref11_Split_r3.eq_1 := by_rfl f_ref11_Split_r3.eq_1
theorem e_ref11_Split_r4 : type_of% f_ref11_Split_r4.eq_1 := by_rfl f_ref11_Split_r4.eq_1
theorem e_ref11_Split_r5 : type_of% f_ref11_Split_r5.eq_1 := by_rfl f_ref11_Split_r5.eq_1
theorem e_ref11_Split_l6 : type_of% f_ref11_Split_l6.eq_1 := by_rfl f_ref11_Split_l6.eq_1
theorem e_ref11_Split_r7 : type_of% f_ref11_Split_r7.eq_1 := by_rfl f_ref11_Split_r7.eq_1
theorem e_ref11_Split_r8 : type_of% f_ref11_Split_r8.eq_1 := by_rfl f_ref11_Split_r8.eq_1
theorem e_ref11_Split_r9 : type_of% f_ref11_Split_r9.eq_1 := by_rfl f_ref11_Split_r9.eq_1
theorem e_ref11_Split_r10 : type_of% f_ref11_Split_r10.eq_1 := by_rfl f_ref11_Split_r10.eq_1
theorem e_ref11_Split_r11 : type_of% f_ref11_Split_r11.eq_1 := by_rfl f_ref11_Split_r11.eq_1
theorem e_ref11_Split_r12 : type_of% f_ref11_Split_r12.eq_1 := by_rfl f_ref11_Split_r12.eq_1
theorem e_ref11_Split_r13 : type_of% f_ref11_Split_r13.eq_1 := by_rfl f_ref11_Split_r13.eq_1
theorem e_ref11_Split_r14 : type_of% f_ref11_Split_r14.eq_1 := by_rfl f_ref11_Split_r14.eq_1
theorem e_ref11_Split_l15 : type_of% f_ref11_Split_l15.eq_1 := by_rfl f_ref11_Split_l15.eq_1
theorem e_ref11_Split_r16 : type_of% f_ref11_Split_r16.eq_1 := by_rfl f_ref11_Split_r16.eq_1
theorem e_ref11_Split_r17 : type_of% f_ref11_Split_r17.eq_1 := by_rfl f_ref11_Split_r17.eq_1
theorem e_ref11_Split_r18 : type_of% f_ref11_Split_r18.eq_1 := by_rfl f_ref11_Split_r18.eq_1
theorem e_ref11_Split_r19 : type_of% f_ref11_Split_r19.eq_1 := by_rfl f_ref11_Split_r19.eq_1
theorem e_ref11_Split_r20 : type_of% f_ref11_Split_r20.eq_1 := by_rfl f_ref11_Split_r20.eq_1
theorem e_ref11_Split_r21 : type_of% f_ref11_Split_r21.eq_1 := by_rfl f_ref11_Split_r21.eq_1
theorem e_ref11_Split_r22 : type_of% f_ref11_Split_r22.eq_1 := by_rfl f_ref11_Split_r22.eq_1
theorem e_ref11_Split_r23 : type_of% f_ref11_Split_r23.eq_1 := by_rfl f_ref11_Split_r23.eq_1
theorem e_ref11_Split_l24 : type_of% f_ref11_Split_l24.eq_1 := by_rfl f_ref11_Split_l24.eq_1
theorem e_ref11_Split_r25 : type_of% f_ref11_Split_r25.eq_1 := by_rfl f_ref11_Split_r25.eq_1
theorem e_ref11_Split_r26 : type_of% f_ref11_Split_r26.eq_1 := by_rfl f_ref11_Split_r26.eq_1
theorem e_ref11_Split_r27 : type_of% f_ref11_Split_r27.eq_1 := by_rfl f_ref11_Split_r27.eq_1
theorem e_ref11_Split_l28 : type_of% f_ref11_Split_l28.eq_1 := by_rfl f_ref11_Split_l28.eq_1
theorem e_ref11_Split_r29 : type_of% f_ref11_Split_r29.eq_1 := by_rfl f_ref11_Split_r29.eq_1
theorem e_ref11_Split : type_of% f_ref11_Split.eq_1 := by_rfl f_ref11_Split.eq_1
theorem ok_ref11_Split : fnC Try.prog a_ref11_Split Try.f18 = some f_ref11_Split := by kernel_rfl

/-! 19 fumarole/fumaroleref11.RightProgramme -/
def f_ref11_RightProgramme_r0 : List Abs.Op := [
  ⟨some 1, none, false, .boxi (.t 0)⟩,
  ⟨some 2, none, false, .mv (.c (.bool false))⟩]

def f_ref11_RightProgramme_r1 : List Abs.Op := [
  ⟨some 4, none, false, .fadr 0 (.t 1)⟩,
  ⟨some 5, none, false, .ld false 1 (.t 4)⟩,
  ⟨some 6, none, false, .call false (.c (.fn i_ref11_In [] [])) [(.t 5), (.c (.int .i64 0)), (.c (.int .i64 1000000))]⟩,
  ⟨some 7, none, false, .un .not (.t 6)⟩,
  ⟨some 8, none, false, .mv (.t 7)⟩,
  ⟨some 9, some (8, false), false, .fadr 1 (.t 1)⟩,
  ⟨some 10, some (8, false), false, .ld false 1 (.t 9)⟩,
  ⟨some 11, some (8, false), false, .call false (.c (.fn i_ref11_In [] [])) [(.t 10), (.c (.int .i64 1)), (.c (.int .i64 1000000))]⟩,
  ⟨some 12, some (8, false), false, .un .not (.t 11)⟩,
  ⟨some 13, none, false, .pick (.t 8) (.c (.bool true)) (.t 12)⟩,
  ⟨some 14, none, false, .mv (.t 13)⟩,
  ⟨some 15, some (14, false), false, .fadr 2 (.t 1)⟩,
  ⟨some 16, some (14, false), false, .ld false 1 (.t 15)⟩,
  ⟨some 17, some (14, false), false, .call false (.c (.fn i_ref11_In [] [])) [(.t 16), (.c (.int .i64 0)), (.c (.int .i64 1000))]⟩,
  ⟨some 18, some (14, false), false, .un .not (.t 17)⟩,
  ⟨some 19, none, false, .pick (.t 14) (.c (.bool true)) (.t 18)⟩,
  ⟨some 20, none, false, .mv (.t 19)⟩,
  ⟨some 21, some (20, false), false, .fadr 3 (.t 1)⟩,
  ⟨some 22, some (20, false), false, .ld false 1 (.t 21)⟩,
  ⟨some 23, some (20, false), false, .call false (.c (.fn i_ref11_In [] [])) [(.t 22), (.c (.int .i64 0)), (.c (.int .i64 3))]⟩,
  ⟨some 24, some (20, false), false, .un .not (.t 23)⟩,
  ⟨some 25, none, false, .pick (.t 20) (.c (.bool true)) (.t 24)⟩,
  ⟨some 26, none, false, .mv (.t 25)⟩,
  ⟨some 27, some (26, false), false, .fadr 4 (.t 1)⟩,
  ⟨some 28, some (26, false), false, .ld false 1 (.t 27)⟩,
  ⟨some 29, some (26, false), false, .lenS (.t 28)⟩,
  ⟨some 30, some (26, false), false, .call false (.c (.fn i_ref11_In [] [])) [(.t 29), (.c (.int .i64 1)), (.c (.int .i64 8))]⟩,
  ⟨some 31, some (26, false), false, .un .not (.t 30)⟩,
  ⟨some 32, none, false, .pick (.t 26) (.c (.bool true)) (.t 31)⟩]

def f_ref11_RightProgramme_r2 : List Abs.Op := [
  ⟨some 2, none, false, .mv (.c (.bool false))⟩]

def f_ref11_RightProgramme_r3 : List Abs.Op := [
  ⟨some 3, none, false, .mv (.c (.int .i64 0))⟩]

def f_ref11_RightProgramme_r4 : List Abs.Op := [
  ⟨some 33, none, false, .mv (.t 3)⟩,
  ⟨some 34, none, false, .fadr 4 (.t 1)⟩,
  ⟨some 35, none, false, .ld false 1 (.t 34)⟩,
  ⟨some 36, none, false, .lenS (.t 35)⟩,
  ⟨some 37, none, false, .bin .lss (.t 33) (.t 36)⟩]

def f_ref11_RightProgramme_r5 : List Abs.Op := [
  ⟨some 40, none, false, .fadr 4 (.t 1)⟩,
  ⟨some 41, none, false, .ld false 1 (.t 40)⟩,
  ⟨some 42, none, false, .mv (.t 3)⟩,
  ⟨some 43, none, false, .idxS 2 (.t 41) (.t 42)⟩,
  ⟨some 44, none, false, .fadr 0 (.t 43)⟩,
  ⟨some 45, none, false, .ld false 1 (.t 44)⟩,
  ⟨some 46, none, false, .call false (.c (.fn i_ref11_In [] [])) [(.t 45), (.c (.int .i64 0)), (.c (.int .i64 30000000))]⟩,
  ⟨some 47, none, false, .un .not (.t 46)⟩,
  ⟨some 48, none, false, .mv (.t 47)⟩,
  ⟨some 49, some (48, false), false, .fadr 4 (.t 1)⟩,
  ⟨some 50, some (48, false), false, .ld false 1 (.t 49)⟩,
  ⟨some 51, some (48, false), false, .mv (.t 3)⟩,
  ⟨some 52, some (48, false), false, .idxS 2 (.t 50) (.t 51)⟩,
  ⟨some 53, some (48, false), false, .fadr 1 (.t 52)⟩,
  ⟨some 54, some (48, false), false, .ld false 1 (.t 53)⟩,
  ⟨some 55, some (48, false), false, .call false (.c (.fn i_ref11_In [] [])) [(.t 54), (.c (.int .i64 0)), (.c (.int .i64 1000000))]⟩,
  ⟨some 56, some (48, false), false, .un .not (.t 55)⟩,
  ⟨some 57, none, false, .pick (.t 48) (.c (.bool true)) (.t 56)⟩]

def f_ref11_RightProgramme_r6 : List Abs.Op := [
  ⟨some 2, none, false, .mv (.c (.bool false))⟩]

def f_ref11_RightProgramme_r7 : List Abs.Op := [
  ⟨some 38, none, false, .mv (.t 3)⟩,
  ⟨some 39, none, false, .bin .add (.t 38) (.c (.int .i64 1))⟩,
  ⟨some 3, none, false, .mv (.t 39)⟩]

def f_ref11_RightProgramme_l8 : Abs.Cmd :=
  (.seq (.seq (.reg [1, 3, 37] f_ref11_RightProgramme_r4) (.ite (.t 37) .nop (.exit 0))) (.seq (.blk 1 (.seq (.reg [1, 3, 57] f_ref11_RightProgramme_r5) (.ite (.t 57) (.seq (.reg [2] f_ref11_RightProgramme_r6) .ret) .nop))) (.reg [1, 3] f_ref11_RightProgramme_r7)))

def f_ref11_RightProgramme_r9 : List Abs.Op := [
  ⟨some 2, none, false, .mv (.c (.bool true))⟩]

def a_ref11_RightProgramme : Ann := ⟨[(8, [2]), (5, [1, 3]), (7, [2]), (6, [1, 3, 57]), (4, [1, 3, 37]), (3, [1, 3]), (2, [2]), (1, [1, 32]), (0, [1])], [(0, [1, 3])], [], [], [], [], [], [], [], []⟩
def f_ref11_RightProgramme : Abs.Fn := ⟨1, [.t 2],
  (.seq (.reg [1] f_ref11_RightProgramme_r0) (.seq (.seq (.reg [1, 32] f_ref11_RightProgramme_r1) (.ite (.t 32) (.seq (.reg [2] f_ref11_RightProgramme_r2) .ret) .nop)) (.seq (.seq (.reg [1, 3] f_ref11_RightProgramme_r3) (.blk 0 (.loop [1, 3] false f_ref11_RightProgramme_l8))) (.seq (.reg [2] f_ref11_RightProgramme_r9) .ret))))⟩

theorem e_ref11_RightProgramme_r0 : type_of% f_ref11_RightProgramme_r0.eq_1 := by_rfl f_ref11_RightProgramme_r0.eq_1
theorem e_ref11_RightProgramme_r1 : type_of% f_ref11_RightProgramme_r1.eq_1 := by_rfl f_ref11_RightProgramme_r1.eq_1
theorem e_ref11_RightProgramme_r2 : type_of% f_ref11_RightProgramme_r2.eq_1 := by_rfl f_ref11_RightProgramme_r2.eq_1
theorem e_ref11_RightProgramme_r3 : type_of% f_ref11_RightProgramme_r3.eq_1 := by_rfl f_ref11_RightProgramme_r3.eq_1
theorem e_ref11_RightProgramme_r4 : type_of% f_ref11_RightProgramme_r4.eq_1 := by_rfl f_ref11_RightProgramme_r4.eq_1
theorem e_ref11_RightProgramme_r5 : type_of% f_ref11_RightProgramme_r5.eq_1 := by_rfl f_ref11_RightProgramme_r5.eq_1
theorem e_ref11_RightProgramme_r6 : type_of% f_ref11_RightProgramme_r6.eq_1 := by_rfl f_ref11_RightProgramme_r6.eq_1
theorem e_ref11_RightProgramme_r7 : type_of% f_ref11_RightProgramme_r7.eq_1 := by_rfl f_ref11_RightProgramme_r7.eq_1
theorem e_ref11_RightProgramme_l8 : type_of% f_ref11_RightProgramme_l8.eq_1 := by_rfl f_ref11_RightProgramme_l8.eq_1
theorem e_ref11_RightProgramme_r9 : type_of% f_ref11_RightProgramme_r9.eq_1 := by_rfl f_ref11_RightProgramme_r9.eq_1
theorem e_ref11_RightProgramme : type_of% f_ref11_RightProgramme.eq_1 := by_rfl f_ref11_RightProgramme.eq_1
theorem ok_ref11_RightProgramme : fnC Try.prog a_ref11_RightProgramme Try.f19 = some f_ref11_RightProgramme := by kernel_rfl

/-! 20 fumarole/fumarolelaw11.Programme -/
def f_law11_Programme_r0 : List Abs.Op := [
  ⟨some 1, none, false, .boxi (.t 0)⟩,
  ⟨some 2, none, false, .alcv [] [(.int .i64 0), (.int .i64 0), (.int .i64 0), (.int .i64 0), .nils]⟩]

def f_law11_Programme_r1 : List Abs.Op := [
  ⟨some 5, none, false, .fadr 0 (.t 1)⟩,
  ⟨some 6, none, false, .ld false 1 (.t 5)⟩,
  ⟨some 7, none, false, .fadr 1 (.t 1)⟩,
  ⟨some 8, none, false, .ld false 1 (.t 7)⟩,
  ⟨some 9, none, false, .fadr 2 (.t 1)⟩,
  ⟨some 10, none, false, .ld false 1 (.t 9)⟩,
  ⟨some 11, none, false, .fadr 3 (.t 1)⟩,
  ⟨some 12, none, false, .ld false 1 (.t 11)⟩,
  ⟨some 13, none, false, .bld [(.int .i64 0), (.int .i64 0), (.int .i64 0), (.int .i64 0), .nils] [(0, 1, (.t 6)), (1, 1, (.t 8)), (2, 1, (.t 10)), (3, 1, (.t 12))]⟩,
  ⟨some 3, none, false, .alcv [] [(.int .i64 0), (.int .i64 0), (.int .i64 0), (.int .i64 0), .nils]⟩,
  ⟨none, none, false, .stv 3 [(4, 2)] 5 3 (.t 13)⟩]

def f_law11_Programme_r2 : List Abs.Op := [
  ⟨some 4, none, false, .mv (.c (.int .i64 0))⟩]

def f_law11_Programme_r3 : List Abs.Op := [
  ⟨some 14, none, false, .mv (.t 4)⟩,
  ⟨some 15, none, false, .fadr 4 (.t 1)⟩,
  ⟨some 16, none, false, .ld false 1 (.t 15)⟩,
  ⟨some 17, none, false, .lenS (.t 16)⟩,
  ⟨some 18, none, false, .bin .lss (.t 14) (.t 17)⟩]

def f_law11_Programme_r4 : List Abs.Op := [
  ⟨some 21, none, true, .fadr 4 (.t 3)⟩,
  ⟨some 22, none, true, .ldv 3 false 1 21⟩,
  ⟨some 23, none, true, .fadr 4 (.t 1)⟩,
  ⟨some 24, none, true, .ld false 1 (.t 23)⟩,
  ⟨some 25, none, true, .mv (.t 4)⟩,
  ⟨some 26, none, true, .idxS 2 (.t 24) (.t 25)⟩,
  ⟨some 27, none, true, .fadr 0 (.t 26)⟩,
  ⟨some 28, none, true, .ld false 1 (.t 27)⟩,
  ⟨some 29, none, true, .fadr 4 (.t 1)⟩,
  ⟨some 30, none, true, .ld false 1 (.t 29)⟩,
  ⟨some 31, none, true, .mv (.t 4)⟩,
  ⟨some 32, none, true, .idxS 2 (.t 30) (.t 31)⟩,
  ⟨some 33, none, true, .fadr 1 (.t 32)⟩,
  ⟨some 34, none, true, .ld false 1 (.t 33)⟩,
  ⟨some 35, none, true, .bld [(.int .i64 0), (.int .i64 0)] [(0, 1, (.t 28)), (1, 1, (.t 34))]⟩,
  ⟨some 36, none, true, .bsi 1 2 [(.int .i64 0), (.int .i64 0)] [(0, 2, (.t 35))]⟩,
  ⟨some 37, none, false, .app 2 16 (.t 22) (.t 36)⟩,
  ⟨some 38, none, false, .fadr 4 (.t 3)⟩,
  ⟨none, none, false, .stv 3 [(0, 2)] 1 38 (.t 37)⟩]

def f_law11_Programme_r5 : List Abs.Op := [
  ⟨some 19, none, false, .mv (.t 4)⟩,
  ⟨some 20, none, false, .bin .add (.t 19) (.c (.int .i64 1))⟩,
  ⟨some 4, none, false, .mv (.t 20)⟩]

def f_law11_Programme_l6 : Abs.Cmd :=
  (.seq (.seq (.reg [1, 2, 3, 4, 18] f_law11_Programme_r3) (.ite (.t 18) .nop (.exit 0))) (.seq (.blk 1 (.reg [1, 2, 3, 4] f_law11_Programme_r4)) (.reg [1, 2, 3, 4] f_law11_Programme_r5)))

def f_law11_Programme_r7 : List Abs.Op := [
  ⟨some 39, none, false, .ldv 3 true 5 3⟩,
  ⟨none, none, false, .stv 2 [] 5 2 (.t 39)⟩]

def a_law11_Programme : Ann := ⟨[(6, [2]), (4, [1, 2, 3, 4]), (5, [1, 2, 3, 4]), (3, [1, 2, 3, 4, 18]), (2, [1, 2, 3, 4]), (1, [1, 2, 3]), (0, [1, 2])], [(0, [1, 2, 3, 4])], [], [2, 3], [2, 3], [(1010, [(4, 2)]), (5018, [(0, 2)])], [], [], [], []⟩
def f_law11_Programme : Abs.Fn := ⟨1, [.v 2 true 5],
  (.seq (.reg [1, 2] f_law11_Programme_r0) (.seq (.reg [1, 2, 3] f_law11_Programme_r1) (.seq (.seq (.reg [1, 2, 3, 4] f_law11_Programme_r2) (.blk 0 (.loop [1, 2, 3, 4] false f_law11_Programme_l6))) (.seq (.reg [2] f_law11_Programme_r7) .ret))))⟩

theorem e_law11_Programme_r0 : type_of% f_law11_Programme_r0.eq_1 := by_rfl f_law11_Programme_r0.eq_1
theorem e_law11_Programme_r1 : type_of% f_law11_Programme_r1.eq_1 := by_rfl f_law11_Programme_r1.eq_1
theorem e_law11_Programme_r2 : type_of% f_law11_Programme_r2.eq_1 := by_rfl f_law11_Programme_r2.eq_1
theorem e_law11_Programme_r3 : type_of% f_law11_Programme_r3.eq_1 := by_rfl f_law11_Programme_r3.eq_1
theorem e_law11_Programme_r4 : type_of% f_law11_Programme_r4.eq_1 := by_rfl f_law11_Programme_r4.eq_1
theorem e_law11_Programme_r5 : type_of% f_law11_Programme_r5.eq_1 := by_rfl f_law11_Programme_r5.eq_1
theorem e_law11_Programme_l6 : type_of% f_law11_Programme_l6.eq_1 := by_rfl f_law11_Programme_l6.eq_1
theorem e_law11_Programme_r7 : type_of% f_law11_Programme_r7.eq_1 := by_rfl f_law11_Programme_r7.eq_1
theorem e_law11_Programme : type_of% f_law11_Programme.eq_1 := by_rfl f_law11_Programme.eq_1
theorem ok_law11_Programme : fnC Try.prog a_law11_Programme Try.f20 = some f_law11_Programme := by kernel_rfl

/-! 21 fumarole/lease.Drill -/
def f_lease_Drill_r0 : List Abs.Op := [
  ⟨some 1, none, false, .boxi (.t 0)⟩,
  ⟨some 2, none, false, .nilb 1⟩,
  ⟨some 3, none, false, .mv (.c (.int .i64 0))⟩,
  ⟨some 4, none, false, .nilb 1⟩,
  ⟨some 5, none, false, .mv (.c (.int .i64 0))⟩]

def f_lease_Drill_r1 : List Abs.Op := [
  ⟨some 15, none, false, .ld true 5 (.t 1)⟩,
  ⟨some 16, none, false, .call false (.c (.fn i_lease_Programme_valid [] [])) [(.t 15)]⟩,
  ⟨some 17, none, false, .un .not (.t 16)⟩]

def f_lease_Drill_r2 : List Abs.Op := [
  ⟨some 2, none, false, .nilb 1⟩,
  ⟨some 3, none, false, .mv (.c (.int .i64 0))⟩,
  ⟨some 4, none, false, .nilb 1⟩,
  ⟨some 5, none, false, .mv (.c (.int .i64 1))⟩]

def f_lease_Drill_r3 : List Abs.Op := [
  ⟨some 18, none, false, .ld true 5 (.t 1)⟩,
  ⟨some 19, none, false, .bld [(.int .i64 0), (.int .i64 0), (.int .i64 0), (.int .i64 0), .nils] [(0, 5, (.t 18))]⟩,
  ⟨some 6, none, false, .alcv [] [(.int .i64 0), (.int .i64 0), (.int .i64 0), (.int .i64 0), .nils]⟩,
  ⟨none, none, false, .stv 6 [] 5 6 (.t 19)⟩]

def f_lease_Drill_r4 : List Abs.Op := [
  ⟨some 20, none, false, .ldv 6 true 5 6⟩,
  ⟨some 21, none, false, .call false (.c (.fn i_lease_work_table [] [])) [(.t 20)]⟩,
  ⟨some 7, none, false, .mv (.t 21)⟩]

def f_lease_Drill_r5 : List Abs.Op := [
  ⟨some 22, none, true, .mv (.t 7)⟩,
  ⟨some 23, none, true, .idxS 1 (.t 22) (.c (.int .i64 0))⟩,
  ⟨some 24, none, true, .ld false 1 (.t 23)⟩,
  ⟨some 25, none, true, .fadr 0 (.t 1)⟩,
  ⟨some 26, none, true, .ld false 1 (.t 25)⟩,
  ⟨some 27, none, false, .call false (.c (.fn i_lease_ladder_at [] [])) [(.t 24), (.t 26)]⟩,
  ⟨some 3, none, false, .mv (.t 27)⟩]

def f_lease_Drill_r6 : List Abs.Op := [
  ⟨some 28, none, false, .mv (.t 3)⟩,
  ⟨some 29, none, false, .bin .eql (.t 28) (.c (.int .i64 1000000000000))⟩]

def f_lease_Drill_r7 : List Abs.Op := [
  ⟨some 2, none, false, .nilb 1⟩,
  ⟨some 3, none, false, .mv (.c (.int .i64 0))⟩,
  ⟨some 4, none, false, .nilb 1⟩,
  ⟨some 5, none, false, .mv (.c (.int .i64 7))⟩]

def f_lease_Drill_r8 : List Abs.Op := [
  ⟨some 30, none, false, .fadr 0 (.t 1)⟩,
  ⟨some 31, none, false, .ld false 1 (.t 30)⟩,
  ⟨some 8, none, false, .mv (.t 31)⟩]

def f_lease_Drill_r9 : List Abs.Op := [
  ⟨some 32, none, false, .fadr 4 (.t 1)⟩,
  ⟨some 33, none, false, .ld false 1 (.t 32)⟩,
  ⟨some 34, none, false, .lenS (.t 33)⟩,
  ⟨some 35, none, false, .mv (.c (.int .i64 0))⟩]

def f_lease_Drill_r10 : List Abs.Op := [
  ⟨some 36, none, false, .bin .lss (.t 35) (.t 34)⟩]

def f_lease_Drill_r11 : List Abs.Op := [
  ⟨some 37, none, false, .mv (.t 35)⟩,
  ⟨some 9, none, false, .mv (.t 37)⟩]

def f_lease_Drill_r12 : List Abs.Op := [
  ⟨some 38, none, false, .bld [(.int .i64 0), (.int .i64 0)] [(0, 1, (.c (.int .i64 100000000))), (1, 1, (.c (.int .i64 0)))]⟩,
  ⟨some 39, none, false, .bsi 1 2 [(.int .i64 0), (.int .i64 0)] [(0, 2, (.t 38))]⟩,
  ⟨some 10, none, false, .mv (.t 39)⟩]

def f_lease_Drill_r13 : List Abs.Op := [
  ⟨some 40, none, false, .mv (.t 9)⟩,
  ⟨some 41, none, false, .bin .add (.t 40) (.c (.int .i64 1))⟩,
  ⟨some 42, none, false, .mv (.t 7)⟩,
  ⟨some 43, none, false, .lenS (.t 42)⟩,
  ⟨some 44, none, false, .bin .lss (.t 41) (.t 43)⟩]

def f_lease_Drill_r14 : List Abs.Op := [
  ⟨some 45, none, false, .mv (.t 7)⟩,
  ⟨some 46, none, false, .mv (.t 9)⟩,
  ⟨some 47, none, false, .bin .add (.t 46) (.c (.int .i64 1))⟩,
  ⟨some 48, none, false, .idxS 1 (.t 45) (.t 47)⟩,
  ⟨some 49, none, false, .ld false 1 (.t 48)⟩,
  ⟨some 10, none, false, .mv (.t 49)⟩]

def f_lease_Drill_r15 : List Abs.Op := [
  ⟨some 50, none, false, .mv (.t 7)⟩,
  ⟨some 51, none, false, .mv (.t 9)⟩,
  ⟨some 52, none, false, .idxS 1 (.t 50) (.t 51)⟩,
  ⟨some 53, none, false, .ld false 1 (.t 52)⟩,
  ⟨some 54, none, false, .mv (.t 8)⟩,
  ⟨some 55, none, false, .call false (.c (.fn i_lease_ladder_at [] [])) [(.t 53), (.t 54)]⟩,
  ⟨some 11, none, false, .mv (.t 55)⟩]

def f_lease_Drill_r16 : List Abs.Op := [
  ⟨some 12, none, false, .mv (.c (.int .i64 0))⟩]

def f_lease_Drill_r17 : List Abs.Op := [
  ⟨some 56, none, true, .fadr 0 (.t 6)⟩,
  ⟨some 57, none, true, .ldv 6 true 5 56⟩,
  ⟨some 58, none, true, .mv (.t 9)⟩,
  ⟨some 59, none, true, .mv (.t 8)⟩,
  ⟨some 60, none, true, .mv (.t 12)⟩,
  ⟨some 61, none, true, .call false (.c (.fn i_lease_Programme_meets [] [])) [(.t 57), (.t 58), (.t 59), (.t 60)]⟩,
  ⟨some 62, none, true, .un .not (.t 61)⟩,
  ⟨some 63, none, true, .mv (.t 62)⟩,
  ⟨some 64, some (63, false), true, .fadr 0 (.t 6)⟩,
  ⟨some 65, some (63, false), true, .fadr 4 (.t 64)⟩,
  ⟨some 66, some (63, false), true, .ldv 6 false 1 65⟩,
  ⟨some 67, some (63, false), true, .mv (.t 9)⟩,
  ⟨some 68, some (63, false), true, .idxS 2 (.t 66) (.t 67)⟩,
  ⟨some 69, some (63, false), true, .ld true 2 (.t 68)⟩,
  ⟨some 70, some (63, false), true, .mv (.t 12)⟩,
  ⟨some 71, some (63, false), true, .call false (.c (.fn i_lease_Year_cost [] [])) [(.t 69), (.t 70)]⟩,
  ⟨some 72, some (63, false), true, .mv (.t 10)⟩,
  ⟨some 73, some (63, false), true, .fadr 0 (.t 6)⟩,
  ⟨some 74, some (63, false), true, .ldv 6 true 5 73⟩,
  ⟨some 75, some (63, false), true, .mv (.t 8)⟩,
  ⟨some 76, some (63, false), true, .mv (.t 12)⟩,
  ⟨some 77, some (63, false), true, .call false (.c (.fn i_lease_Programme_after [] [])) [(.t 74), (.t 75), (.t 76)]⟩,
  ⟨some 78, some (63, false), true, .call false (.c (.fn i_lease_ladder_at [] [])) [(.t 72), (.t 77)]⟩,
  ⟨some 79, some (63, false), true, .bin .add (.t 71) (.t 78)⟩,
  ⟨some 80, some (63, false), true, .mv (.t 11)⟩,
  ⟨some 81, some (63, false), false, .bin .neq (.t 79) (.t 80)⟩,
  ⟨some 82, none, false, .pick (.t 63) (.c (.bool true)) (.t 81)⟩]

def f_lease_Drill_r18 : List Abs.Op := [
  ⟨some 83, none, false, .mv (.t 12)⟩,
  ⟨some 84, none, false, .bin .add (.t 83) (.c (.int .i64 1))⟩,
  ⟨some 12, none, false, .mv (.t 84)⟩]

def f_lease_Drill_l19 : Abs.Cmd :=
  (.seq (.seq (.reg [2, 3, 4, 6, 7, 8, 9, 10, 11, 12, 34, 35, 82] f_lease_Drill_r17) (.ite (.t 82) .nop (.exit 2))) (.blk 3 (.reg [2, 3, 4, 6, 7, 8, 9, 10, 11, 12, 34, 35] f_lease_Drill_r18)))

def f_lease_Drill_r20 : List Abs.Op := [
  ⟨some 85, none, true, .mv (.t 2)⟩,
  ⟨some 86, none, true, .mv (.t 12)⟩,
  ⟨some 87, none, true, .bsi 1 1 [(.int .i64 0)] [(0, 1, (.t 86))]⟩,
  ⟨some 88, none, true, .app 1 8 (.t 85) (.t 87)⟩,
  ⟨some 89, none, true, .fadr 0 (.t 6)⟩,
  ⟨some 90, none, true, .ldv 6 true 5 89⟩,
  ⟨some 91, none, true, .mv (.t 8)⟩,
  ⟨some 92, none, true, .mv (.t 12)⟩,
  ⟨some 93, none, false, .call false (.c (.fn i_lease_Programme_after [] [])) [(.t 90), (.t 91), (.t 92)]⟩,
  ⟨some 2, none, false, .mv (.t 88)⟩,
  ⟨some 8, none, false, .mv (.t 93)⟩]

def f_lease_Drill_r21 : List Abs.Op := [
  ⟨some 94, none, false, .bin .add (.t 35) (.c (.int .i64 1))⟩,
  ⟨some 35, none, false, .mv (.t 94)⟩]

def f_lease_Drill_l22 : Abs.Cmd :=
  (.seq (.reg [2, 3, 4, 6, 7, 8, 34, 35, 36] f_lease_Drill_r10) (.seq (.ite (.t 36) .nop (.exit 0)) (.seq (.blk 1 (.seq (.reg [2, 3, 4, 6, 7, 8, 9, 34, 35] f_lease_Drill_r11) (.seq (.reg [2, 3, 4, 6, 7, 8, 9, 10, 34, 35] f_lease_Drill_r12) (.seq (.seq (.reg [2, 3, 4, 6, 7, 8, 9, 10, 34, 35, 44] f_lease_Drill_r13) (.ite (.t 44) (.reg [2, 3, 4, 6, 7, 8, 9, 10, 34, 35] f_lease_Drill_r14) .nop)) (.seq (.reg [2, 3, 4, 6, 7, 8, 9, 10, 11, 34, 35] f_lease_Drill_r15) (.seq (.reg [2, 3, 4, 6, 7, 8, 9, 10, 11, 12, 34, 35] f_lease_Drill_r16) (.seq (.blk 2 (.loop [2, 3, 4, 6, 7, 8, 9, 10, 11, 12, 34, 35] false f_lease_Drill_l19)) (.reg [2, 3, 4, 6, 7, 8, 34, 35] f_lease_Drill_r20)))))))) (.reg [2, 3, 4, 6, 7, 8, 34, 35] f_lease_Drill_r21))))

def f_lease_Drill_r23 : List Abs.Op := [
  ⟨some 95, none, false, .mv (.t 7)⟩,
  ⟨some 96, none, false, .lenS (.t 95)⟩,
  ⟨some 97, none, false, .mv (.c (.int .i64 0))⟩]

def f_lease_Drill_r24 : List Abs.Op := [
  ⟨some 98, none, false, .bin .lss (.t 97) (.t 96)⟩]

def f_lease_Drill_r25 : List Abs.Op := [
  ⟨some 99, none, false, .idxS 1 (.t 95) (.t 97)⟩,
  ⟨some 100, none, false, .ld false 1 (.t 99)⟩,
  ⟨some 14, none, false, .mv (.t 100)⟩]

def f_lease_Drill_r26 : List Abs.Op := [
  ⟨some 101, none, false, .mv (.t 4)⟩,
  ⟨some 102, none, false, .mv (.t 14)⟩,
  ⟨some 103, none, false, .bsi 1 1 [.nils] [(0, 1, (.t 102))]⟩,
  ⟨some 104, none, false, .app 1 24 (.t 101) (.t 103)⟩,
  ⟨some 4, none, false, .mv (.t 104)⟩]

def f_lease_Drill_r27 : List Abs.Op := [
  ⟨some 105, none, false, .bin .add (.t 97) (.c (.int .i64 1))⟩,
  ⟨some 97, none, false, .mv (.t 105)⟩]

def f_lease_Drill_l28 : Abs.Cmd :=
  (.seq (.reg [2, 3, 4, 95, 96, 97, 98] f_lease_Drill_r24) (.seq (.ite (.t 98) .nop (.exit 4)) (.seq (.blk 5 (.seq (.reg [2, 3, 4, 14, 95, 96, 97] f_lease_Drill_r25) (.reg [2, 3, 4, 95, 96, 97] f_lease_Drill_r26))) (.reg [2, 3, 4, 95, 96, 97] f_lease_Drill_r27))))

def f_lease_Drill_r29 : List Abs.Op := [
  ⟨some 106, none, false, .mv (.t 2)⟩,
  ⟨some 107, none, false, .mv (.t 3)⟩,
  ⟨some 108, none, false, .mv (.t 4)⟩,
  ⟨some 2, none, false, .mv (.t 106)⟩,
  ⟨some 3, none, false, .mv (.t 107)⟩,
  ⟨some 4, none, false, .mv (.t 108)⟩,
  ⟨some 5, none, false, .mv (.c (.int .i64 0))⟩]

def a_lease_Drill : Ann := ⟨[(26, [2, 3, 4, 5]), (25, [2, 3, 4, 95, 96, 97]), (24, [2, 3, 4, 95, 96, 97]), (23, [2, 3, 4, 14, 95, 96, 97]), (22, [2, 3, 4, 95, 96, 97, 98]), (21, [2, 3, 4, 95, 96, 97]), (20, [2, 3, 4, 6, 7, 8, 34, 35]), (19, [2, 3, 4, 6, 7, 8, 34, 35]), (18, [2, 3, 4, 6, 7, 8, 9, 10, 11, 12, 34, 35]), (17, [2, 3, 4, 6, 7, 8, 9, 10, 11, 12, 34, 35, 82]), (16, [2, 3, 4, 6, 7, 8, 9, 10, 11, 12, 34, 35]), (15, [2, 3, 4, 6, 7, 8, 9, 10, 11, 34, 35]), (14, [2, 3, 4, 6, 7, 8, 9, 10, 34, 35]), (13, [2, 3, 4, 6, 7, 8, 9, 10, 34, 35, 44]), (12, [2, 3, 4, 6, 7, 8, 9, 10, 34, 35]), (11, [2, 3, 4, 6, 7, 8, 9, 34, 35]), (10, [2, 3, 4, 6, 7, 8, 34, 35, 36]), (9, [2, 3, 4, 6, 7, 8, 34, 35]), (8, [1, 2, 3, 4, 6, 7, 8]), (7, [2, 3, 4, 5]), (6, [1, 2, 3, 4, 6, 7, 29]), (5, [1, 2, 3, 4, 6, 7]), (4, [1, 2, 4, 6, 7]), (3, [1, 2, 4, 6]), (2, [2, 3, 4, 5]), (1, [1, 2, 4, 17]), (0, [1, 2, 4])], [(4, [2, 3, 4, 95, 96, 97]), (2, [2, 3, 4, 6, 7, 8, 9, 10, 11, 12, 34, 35]), (0, [2, 3, 4, 6, 7, 8, 34, 35])], [], [2, 4, 6], [6], [], [], [], [], []⟩
def f_lease_Drill : Abs.Fn := ⟨1, [.t 2, .t 3, .t 4, .t 5],
  (.seq (.reg [1, 2, 4] f_lease_Drill_r0) (.seq (.seq (.reg [1, 2, 4, 17] f_lease_Drill_r1) (.ite (.t 17) (.seq (.reg [2, 3, 4, 5] f_lease_Drill_r2) .ret) .nop)) (.seq (.reg [1, 2, 4, 6] f_lease_Drill_r3) (.seq (.reg [1, 2, 4, 6, 7] f_lease_Drill_r4) (.seq (.reg [1, 2, 3, 4, 6, 7] f_lease_Drill_r5) (.seq (.seq (.reg [1, 2, 3, 4, 6, 7, 29] f_lease_Drill_r6) (.ite (.t 29) (.seq (.reg [2, 3, 4, 5] f_lease_Drill_r7) .ret) .nop)) (.seq (.reg [1, 2, 3, 4, 6, 7, 8] f_lease_Drill_r8) (.seq (.seq (.reg [2, 3, 4, 6, 7, 8, 34, 35] f_lease_Drill_r9) (.blk 0 (.loop [2, 3, 4, 6, 7, 8, 34, 35] false f_lease_Drill_l22))) (.seq (.seq (.reg [2, 3, 4, 95, 96, 97] f_lease_Drill_r23) (.blk 4 (.loop [2, 3, 4, 95, 96, 97] false f_lease_Drill_l28))) (.seq (.reg [2, 3, 4, 5] f_lease_Drill_r29) .ret))))))))))⟩

theorem e_lease_Drill_r0 : type_of% f_lease_Drill_r0.eq_1 := by_rfl f_lease_Drill_r0.eq_1
theorem e_lease_Drill_r1 : type_of% f_lease_Drill_r1.eq_1 := by_rfl f_lease_Drill_r1.eq_1
theorem e_lease_Drill_r2 : type_of% f_lease_Drill_r2.eq_1 := by_rfl f_lease_Drill_r2.eq_1
theorem e_lease_Drill_r3 : type_of% f_lease_Drill_r3.eq_1 := by_rfl f_lease_Drill_r3.eq_1
theorem e_lease_Drill_r4 : type_of% f_lease_Drill_r4.eq_1 := by_rfl f_lease_Drill_r4.eq_1
theorem e_lease_Drill_r5 : type_of% f_lease_Drill_r5.eq_1 := by_rfl f_lease_Drill_r5.eq_1
theorem e_lease_Drill_r6 : type_of% f_lease_Drill_r6.eq_1 := by_rfl f_lease_Drill_r6.eq_1
theorem e_lease_Drill_r7 : type_of% f_lease_Drill_r7.eq_1 := by_rfl f_lease_Drill_r7.eq_1
theorem e_lease_Drill_r8 : type_of% f_lease_Drill_r8.eq_1 := by_rfl f_lease_Drill_r8.eq_1
theorem e_lease_Drill_r9 : type_of% f_lease_Drill_r9.eq_1 := by_rfl f_lease_Drill_r9.eq_1
theorem e_lease_Drill_r10 : type_of% f_lease_Drill_r10.eq_1 := by_rfl f_lease_Drill_r10.eq_1
theorem e_lease_Drill_r11 : type_of% f_lease_Drill_r11.eq_1 := by_rfl f_lease_Drill_r11.eq_1
theorem e_lease_Drill_r12 : type_of% f_lease_Drill_r12.eq_1 := by_rfl f_lease_Drill_r12.eq_1
theorem e_lease_Drill_r13 : type_of% f_lease_Drill_r13.eq_1 := by_rfl f_lease_Drill_r13.eq_1
theorem e_lease_Drill_r14 : type_of% f_lease_Drill_r14.eq_1 := by_rfl f_lease_Drill_r14.eq_1
theorem e_lease_Drill_r15 : type_of% f_lease_Drill_r15.eq_1 := by_rfl f_lease_Drill_r15.eq_1
theorem e_lease_Drill_r16 : type_of% f_lease_Drill_r16.eq_1 := by_rfl f_lease_Drill_r16.eq_1
theorem e_lease_Drill_r17 : type_of% f_lease_Drill_r17.eq_1 := by_rfl f_lease_Drill_r17.eq_1
theorem e_lease_Drill_r18 : type_of% f_lease_Drill_r18.eq_1 := by_rfl f_lease_Drill_r18.eq_1
theorem e_lease_Drill_l19 : type_of% f_lease_Drill_l19.eq_1 := by_rfl f_lease_Drill_l19.eq_1
theorem e_lease_Drill_r20 : type_of% f_lease_Drill_r20.eq_1 := by_rfl f_lease_Drill_r20.eq_1
theorem e_lease_Drill_r21 : type_of% f_lease_Drill_r21.eq_1 := by_rfl f_lease_Drill_r21.eq_1
theorem e_lease_Drill_l22 : type_of% f_lease_Drill_l22.eq_1 := by_rfl f_lease_Drill_l22.eq_1
theorem e_lease_Drill_r23 : type_of% f_lease_Drill_r23.eq_1 := by_rfl f_lease_Drill_r23.eq_1
theorem e_lease_Drill_r24 : type_of% f_lease_Drill_r24.eq_1 := by_rfl f_lease_Drill_r24.eq_1
theorem e_lease_Drill_r25 : type_of% f_lease_Drill_r25.eq_1 := by_rfl f_lease_Drill_r25.eq_1
theorem e_lease_Drill_r26 : type_of% f_lease_Drill_r26.eq_1 := by_rfl f_lease_Drill_r26.eq_1
theorem e_lease_Drill_r27 : type_of% f_lease_Drill_r27.eq_1 := by_rfl f_lease_Drill_r27.eq_1
theorem e_lease_Drill_l28 : type_of% f_lease_Drill_l28.eq_1 := by_rfl f_lease_Drill_l28.eq_1
theorem e_lease_Drill_r29 : type_of% f_lease_Drill_r29.eq_1 := by_rfl f_lease_Drill_r29.eq_1
theorem e_lease_Drill : type_of% f_lease_Drill.eq_1 := by_rfl f_lease_Drill.eq_1
theorem ok_lease_Drill : fnC Try.prog a_lease_Drill Try.f21 = some f_lease_Drill := by kernel_rfl

/-! 22 fumarole/lease.Short -/
def f_lease_Short_r0 : List Abs.Op := [
  ⟨some 1, none, false, .boxi (.t 0)⟩,
  ⟨some 2, none, false, .mv (.c (.int .i64 0))⟩,
  ⟨some 3, none, false, .mv (.c (.int .i64 0))⟩]

def f_lease_Short_r1 : List Abs.Op := [
  ⟨some 6, none, false, .ld true 5 (.t 1)⟩,
  ⟨some 7, none, false, .call false (.c (.fn i_lease_Programme_valid [] [])) [(.t 6)]⟩,
  ⟨some 8, none, false, .un .not (.t 7)⟩]

def f_lease_Short_r2 : List Abs.Op := [
  ⟨some 2, none, false, .mv (.c (.int .i64 0))⟩,
  ⟨some 3, none, false, .mv (.c (.int .i64 1))⟩]

def f_lease_Short_r3 : List Abs.Op := [
  ⟨some 9, none, false, .fadr 0 (.t 1)⟩,
  ⟨some 10, none, false, .ld false 1 (.t 9)⟩,
  ⟨some 4, none, false, .mv (.t 10)⟩]

def f_lease_Short_r4 : List Abs.Op := [
  ⟨some 11, none, false, .fadr 4 (.t 1)⟩,
  ⟨some 12, none, false, .ld false 1 (.t 11)⟩,
  ⟨some 13, none, false, .lenS (.t 12)⟩,
  ⟨some 14, none, false, .mv (.c (.int .i64 0))⟩]

def f_lease_Short_r5 : List Abs.Op := [
  ⟨some 15, none, false, .bin .lss (.t 14) (.t 13)⟩]

def f_lease_Short_r6 : List Abs.Op := [
  ⟨some 16, none, false, .mv (.t 14)⟩,
  ⟨some 5, none, false, .mv (.t 16)⟩]

def f_lease_Short_r7 : List Abs.Op := [
  ⟨some 17, none, false, .ld true 5 (.t 1)⟩,
  ⟨some 18, none, false, .mv (.t 5)⟩,
  ⟨some 19, none, false, .mv (.t 4)⟩,
  ⟨some 20, none, false, .fadr 3 (.t 1)⟩,
  ⟨some 21, none, false, .ld false 1 (.t 20)⟩,
  ⟨some 22, none, false, .call false (.c (.fn i_lease_Programme_meets [] [])) [(.t 17), (.t 18), (.t 19), (.t 21)]⟩,
  ⟨some 23, none, false, .un .not (.t 22)⟩]

def f_lease_Short_r8 : List Abs.Op := [
  ⟨some 24, none, false, .mv (.t 5)⟩,
  ⟨some 2, none, false, .mv (.t 24)⟩,
  ⟨some 3, none, false, .mv (.c (.int .i64 0))⟩]

def f_lease_Short_r9 : List Abs.Op := [
  ⟨some 25, none, false, .ld true 5 (.t 1)⟩,
  ⟨some 26, none, false, .mv (.t 4)⟩,
  ⟨some 27, none, false, .fadr 3 (.t 1)⟩,
  ⟨some 28, none, false, .ld false 1 (.t 27)⟩,
  ⟨some 29, none, false, .call false (.c (.fn i_lease_Programme_after [] [])) [(.t 25), (.t 26), (.t 28)]⟩,
  ⟨some 4, none, false, .mv (.t 29)⟩]

def f_lease_Short_r10 : List Abs.Op := [
  ⟨some 30, none, false, .bin .add (.t 14) (.c (.int .i64 1))⟩,
  ⟨some 14, none, false, .mv (.t 30)⟩]

def f_lease_Short_l11 : Abs.Cmd :=
  (.seq (.reg [1, 4, 13, 14, 15] f_lease_Short_r5) (.seq (.ite (.t 15) .nop (.exit 0)) (.seq (.blk 1 (.seq (.reg [1, 4, 5, 13, 14] f_lease_Short_r6) (.seq (.seq (.reg [1, 4, 5, 13, 14, 23] f_lease_Short_r7) (.ite (.t 23) (.seq (.reg [2, 3] f_lease_Short_r8) .ret) .nop)) (.reg [1, 4, 13, 14] f_lease_Short_r9)))) (.reg [1, 4, 13, 14] f_lease_Short_r10))))

def f_lease_Short_r12 : List Abs.Op := [
  ⟨some 2, none, false, .mv (.c (.int .i64 0))⟩,
  ⟨some 3, none, false, .mv (.c (.int .i64 7))⟩]

def a_lease_Short : Ann := ⟨[(11, [2, 3]), (10, [1, 4, 13, 14]), (9, [1, 4, 13, 14]), (8, [2, 3]), (7, [1, 4, 5, 13, 14, 23]), (6, [1, 4, 5, 13, 14]), (5, [1, 4, 13, 14, 15]), (4, [1, 4, 13, 14]), (3, [1, 4]), (2, [2, 3]), (1, [1, 8]), (0, [1])], [(0, [1, 4, 13, 14])], [], [], [], [], [], [], [], []⟩
def f_lease_Short : Abs.Fn := ⟨1, [.t 2, .t 3],
  (.seq (.reg [1] f_lease_Short_r0) (.seq (.seq (.reg [1, 8] f_lease_Short_r1) (.ite (.t 8) (.seq (.reg [2, 3] f_lease_Short_r2) .ret) .nop)) (.seq (.reg [1, 4] f_lease_Short_r3) (.seq (.seq (.reg [1, 4, 13, 14] f_lease_Short_r4) (.blk 0 (.loop [1, 4, 13, 14] false f_lease_Short_l11))) (.seq (.reg [2, 3] f_lease_Short_r12) .ret)))))⟩

theorem e_lease_Short_r0 : type_of% f_lease_Short_r0.eq_1 := by_rfl f_lease_Short_r0.eq_1
theorem e_lease_Short_r1 : type_of% f_lease_Short_r1.eq_1 := by_rfl f_lease_Short_r1.eq_1
theorem e_lease_Short_r2 : type_of% f_lease_Short_r2.eq_1 := by_rfl f_lease_Short_r2.eq_1
theorem e_lease_Short_r3 : type_of% f_lease_Short_r3.eq_1 := by_rfl f_lease_Short_r3.eq_1
theorem e_lease_Short_r4 : type_of% f_lease_Short_r4.eq_1 := by_rfl f_lease_Short_r4.eq_1
theorem e_lease_Short_r5 : type_of% f_lease_Short_r5.eq_1 := by_rfl f_lease_Short_r5.eq_1
theorem e_lease_Short_r6 : type_of% f_lease_Short_r6.eq_1 := by_rfl f_lease_Short_r6.eq_1
theorem e_lease_Short_r7 : type_of% f_lease_Short_r7.eq_1 := by_rfl f_lease_Short_r7.eq_1
theorem e_lease_Short_r8 : type_of% f_lease_Short_r8.eq_1 := by_rfl f_lease_Short_r8.eq_1
theorem e_lease_Short_r9 : type_of% f_lease_Short_r9.eq_1 := by_rfl f_lease_Short_r9.eq_1
theorem e_lease_Short_r10 : type_of% f_lease_Short_r10.eq_1 := by_rfl f_lease_Short_r10.eq_1
theorem e_lease_Short_l11 : type_of% f_lease_Short_l11.eq_1 := by_rfl f_lease_Short_l11.eq_1
theorem e_lease_Short_r12 : type_of% f_lease_Short_r12.eq_1 := by_rfl f_lease_Short_r12.eq_1
theorem e_lease_Short : type_of% f_lease_Short.eq_1 := by_rfl f_lease_Short.eq_1
theorem ok_lease_Short : fnC Try.prog a_lease_Short Try.f22 = some f_lease_Short := by kernel_rfl

/-! 23 fumarole/lease.Least -/
def f_lease_Least_r0 : List Abs.Op := [
  ⟨some 3, none, false, .boxi (.t 0)⟩,
  ⟨some 6, none, false, .mv (.c (.int .i64 0))⟩,
  ⟨some 7, none, false, .mv (.c (.int .i64 0))⟩]

def f_lease_Least_r1 : List Abs.Op := [
  ⟨some 10, none, false, .ld true 5 (.t 3)⟩,
  ⟨some 11, none, false, .call false (.c (.fn i_lease_Programme_valid [] [])) [(.t 10)]⟩,
  ⟨some 12, none, false, .un .not (.t 11)⟩,
  ⟨some 9, none, false, .mv (.t 12)⟩]

def f_lease_Least_r2 : List Abs.Op := [
  ⟨some 6, none, false, .mv (.c (.int .i64 0))⟩,
  ⟨some 7, none, false, .mv (.c (.int .i64 1))⟩]

def f_lease_Least_r3 : List Abs.Op := [
  ⟨some 14, none, false, .mv (.t 1)⟩,
  ⟨some 15, none, false, .fadr 4 (.t 3)⟩,
  ⟨some 16, none, false, .ld false 1 (.t 15)⟩,
  ⟨some 17, none, false, .lenS (.t 16)⟩,
  ⟨some 18, none, false, .call false (.c (.fn i_lease_within [] [])) [(.t 14), (.c (.int .i64 0)), (.t 17)]⟩,
  ⟨some 19, none, false, .un .not (.t 18)⟩,
  ⟨some 20, none, false, .mv (.t 19)⟩,
  ⟨some 21, some (20, false), false, .mv (.t 2)⟩,
  ⟨some 22, some (20, false), false, .call false (.c (.fn i_lease_within [] [])) [(.t 21), (.c (.int .i64 0)), (.c (.int .i64 100000000))]⟩,
  ⟨some 23, some (20, false), false, .un .not (.t 22)⟩,
  ⟨some 24, none, false, .pick (.t 20) (.c (.bool true)) (.t 23)⟩,
  ⟨some 13, none, false, .mv (.t 24)⟩]

def f_lease_Least_r4 : List Abs.Op := [
  ⟨some 6, none, false, .mv (.c (.int .i64 0))⟩,
  ⟨some 7, none, false, .mv (.c (.int .i64 2))⟩]

def f_lease_Least_r5 : List Abs.Op := [
  ⟨some 26, none, false, .mv (.t 1)⟩,
  ⟨some 27, none, false, .fadr 4 (.t 3)⟩,
  ⟨some 28, none, false, .ld false 1 (.t 27)⟩,
  ⟨some 29, none, false, .lenS (.t 28)⟩,
  ⟨some 30, none, false, .bin .eql (.t 26) (.t 29)⟩,
  ⟨some 25, none, false, .mv (.t 30)⟩]

def f_lease_Least_r6 : List Abs.Op := [
  ⟨some 6, none, false, .mv (.c (.int .i64 0))⟩,
  ⟨some 7, none, false, .mv (.c (.int .i64 0))⟩]

def f_lease_Least_r7 : List Abs.Op := [
  ⟨some 31, none, false, .ld true 5 (.t 3)⟩,
  ⟨some 32, none, false, .bld [(.int .i64 0), (.int .i64 0), (.int .i64 0), (.int .i64 0), .nils] [(0, 5, (.t 31))]⟩,
  ⟨some 33, none, false, .call false (.c (.fn i_lease_work_table [] [])) [(.t 32)]⟩,
  ⟨some 34, none, false, .mv (.t 1)⟩,
  ⟨some 35, none, false, .idxS 1 (.t 33) (.t 34)⟩,
  ⟨some 36, none, false, .ld false 1 (.t 35)⟩,
  ⟨some 37, none, false, .mv (.t 2)⟩,
  ⟨some 38, none, false, .call false (.c (.fn i_lease_ladder_at [] [])) [(.t 36), (.t 37)]⟩,
  ⟨some 8, none, false, .mv (.t 38)⟩]

def f_lease_Least_r8 : List Abs.Op := [
  ⟨some 39, none, false, .mv (.t 8)⟩,
  ⟨some 40, none, false, .bin .eql (.t 39) (.c (.int .i64 1000000000000))⟩]

def f_lease_Least_r9 : List Abs.Op := [
  ⟨some 6, none, false, .mv (.c (.int .i64 0))⟩,
  ⟨some 7, none, false, .mv (.c (.int .i64 7))⟩]

def f_lease_Least_r10 : List Abs.Op := [
  ⟨some 41, none, false, .mv (.t 8)⟩,
  ⟨some 6, none, false, .mv (.t 41)⟩,
  ⟨some 7, none, false, .mv (.c (.int .i64 0))⟩]

def a_lease_Least : Ann := ⟨[(10, [6, 7]), (9, [6, 7]), (8, [8, 40]), (7, [8]), (2, [6, 7]), (4, [6, 7]), (6, [6, 7]), (5, [1, 2, 3, 25]), (3, [1, 2, 3, 13]), (1, [1, 2, 3, 9]), (0, [1, 2, 3])], [], [], [], [], [], [], [], [], []⟩
def f_lease_Least : Abs.Fn := ⟨3, [.t 6, .t 7],
  (.seq (.reg [1, 2, 3] f_lease_Least_r0) (.seq (.blk 0 (.seq (.reg [1, 2, 3, 9] f_lease_Least_r1) (.ite (.t 9) (.seq (.reg [6, 7] f_lease_Least_r2) .ret) (.seq (.reg [1, 2, 3, 13] f_lease_Least_r3) (.ite (.t 13) (.seq (.reg [6, 7] f_lease_Least_r4) .ret) (.seq (.reg [1, 2, 3, 25] f_lease_Least_r5) (.ite (.t 25) (.seq (.reg [6, 7] f_lease_Least_r6) .ret) .nop))))))) (.seq (.reg [8] f_lease_Least_r7) (.seq (.seq (.reg [8, 40] f_lease_Least_r8) (.ite (.t 40) (.seq (.reg [6, 7] f_lease_Least_r9) .ret) .nop)) (.seq (.reg [6, 7] f_lease_Least_r10) .ret)))))⟩

theorem e_lease_Least_r0 : type_of% f_lease_Least_r0.eq_1 := by_rfl f_lease_Least_r0.eq_1
theorem e_lease_Least_r1 : type_of% f_lease_Least_r1.eq_1 := by_rfl f_lease_Least_r1.eq_1
theorem e_lease_Least_r2 : type_of% f_lease_Least_r2.eq_1 := by_rfl f_lease_Least_r2.eq_1
theorem e_lease_Least_r3 : type_of% f_lease_Least_r3.eq_1 := by_rfl f_lease_Least_r3.eq_1
theorem e_lease_Least_r4 : type_of% f_lease_Least_r4.eq_1 := by_rfl f_lease_Least_r4.eq_1
theorem e_lease_Least_r5 : type_of% f_lease_Least_r5.eq_1 := by_rfl f_lease_Least_r5.eq_1
theorem e_lease_Least_r6 : type_of% f_lease_Least_r6.eq_1 := by_rfl f_lease_Least_r6.eq_1
theorem e_lease_Least_r7 : type_of% f_lease_Least_r7.eq_1 := by_rfl f_lease_Least_r7.eq_1
theorem e_lease_Least_r8 : type_of% f_lease_Least_r8.eq_1 := by_rfl f_lease_Least_r8.eq_1
theorem e_lease_Least_r9 : type_of% f_lease_Least_r9.eq_1 := by_rfl f_lease_Least_r9.eq_1
theorem e_lease_Least_r10 : type_of% f_lease_Least_r10.eq_1 := by_rfl f_lease_Least_r10.eq_1
theorem e_lease_Least : type_of% f_lease_Least.eq_1 := by_rfl f_lease_Least.eq_1
theorem ok_lease_Least : fnC Try.prog a_lease_Least Try.f23 = some f_lease_Least := by kernel_rfl

/-! 24 fumarole/fumaroleref11.Least -/
def f_ref11_Least_r0 : List Abs.Op := [
  ⟨some 3, none, false, .boxi (.t 0)⟩,
  ⟨some 6, none, false, .mv (.c (.int .i64 0))⟩]

def f_ref11_Least_r1 : List Abs.Op := [
  ⟨some 10, none, false, .mv (.t 1)⟩,
  ⟨some 11, none, false, .fadr 4 (.t 3)⟩,
  ⟨some 12, none, false, .ld false 1 (.t 11)⟩,
  ⟨some 13, none, false, .lenS (.t 12)⟩,
  ⟨some 14, none, false, .bin .eql (.t 10) (.t 13)⟩]

def f_ref11_Least_r2 : List Abs.Op := [
  ⟨some 6, none, false, .mv (.c (.int .i64 0))⟩]

def f_ref11_Least_r3 : List Abs.Op := [
  ⟨some 7, none, false, .mv (.c (.int .i64 1000000000000))⟩]

def f_ref11_Least_r4 : List Abs.Op := [
  ⟨some 8, none, false, .mv (.c (.int .i64 0))⟩]

def f_ref11_Least_r5 : List Abs.Op := [
  ⟨some 15, none, false, .mv (.t 8)⟩,
  ⟨some 16, none, false, .fadr 3 (.t 3)⟩,
  ⟨some 17, none, false, .ld false 1 (.t 16)⟩,
  ⟨some 18, none, false, .bin .leq (.t 15) (.t 17)⟩]

def f_ref11_Least_r6 : List Abs.Op := [
  ⟨some 21, none, false, .mv (.t 2)⟩,
  ⟨some 22, none, false, .mv (.t 8)⟩,
  ⟨some 23, none, false, .fadr 1 (.t 3)⟩,
  ⟨some 24, none, false, .ld false 1 (.t 23)⟩,
  ⟨some 25, none, false, .bin .mul (.t 22) (.t 24)⟩,
  ⟨some 26, none, false, .bin .add (.t 21) (.t 25)⟩,
  ⟨some 9, none, false, .mv (.t 26)⟩]

def f_ref11_Least_r7 : List Abs.Op := [
  ⟨some 27, none, false, .mv (.t 9)⟩,
  ⟨some 28, none, false, .fadr 4 (.t 3)⟩,
  ⟨some 29, none, false, .ld false 1 (.t 28)⟩,
  ⟨some 30, none, false, .mv (.t 1)⟩,
  ⟨some 31, none, false, .idxS 2 (.t 29) (.t 30)⟩,
  ⟨some 32, none, false, .fadr 0 (.t 31)⟩,
  ⟨some 33, none, false, .ld false 1 (.t 32)⟩,
  ⟨some 34, none, false, .bin .geq (.t 27) (.t 33)⟩]

def f_ref11_Least_r8 : List Abs.Op := [
  ⟨some 35, none, true, .mv (.t 7)⟩,
  ⟨some 36, none, true, .mv (.t 8)⟩,
  ⟨some 37, none, true, .fadr 4 (.t 3)⟩,
  ⟨some 38, none, true, .ld false 1 (.t 37)⟩,
  ⟨some 39, none, true, .mv (.t 1)⟩,
  ⟨some 40, none, true, .idxS 2 (.t 38) (.t 39)⟩,
  ⟨some 41, none, true, .fadr 1 (.t 40)⟩,
  ⟨some 42, none, true, .ld false 1 (.t 41)⟩,
  ⟨some 43, none, true, .bin .mul (.t 36) (.t 42)⟩,
  ⟨some 44, none, true, .ld true 5 (.t 3)⟩,
  ⟨some 45, none, true, .mv (.t 1)⟩,
  ⟨some 46, none, true, .bin .add (.t 45) (.c (.int .i64 1))⟩,
  ⟨some 47, none, true, .mv (.t 9)⟩,
  ⟨some 48, none, true, .fadr 2 (.t 3)⟩,
  ⟨some 49, none, true, .ld false 1 (.t 48)⟩,
  ⟨some 50, none, true, .bin .mul (.t 47) (.t 49)⟩,
  ⟨some 51, none, true, .bin .quo (.t 50) (.c (.int .i64 1000))⟩,
  ⟨some 52, none, true, .call false (.c (.fn i_ref11_Least [] [])) [(.t 44), (.t 46), (.t 51)]⟩,
  ⟨some 53, none, true, .bin .add (.t 43) (.t 52)⟩,
  ⟨some 54, none, false, .mn (.t 35) (.t 53)⟩,
  ⟨some 7, none, false, .mv (.t 54)⟩]

def f_ref11_Least_r9 : List Abs.Op := [
  ⟨some 19, none, false, .mv (.t 8)⟩,
  ⟨some 20, none, false, .bin .add (.t 19) (.c (.int .i64 1))⟩,
  ⟨some 8, none, false, .mv (.t 20)⟩]

def f_ref11_Least_l10 : Abs.Cmd :=
  (.seq (.seq (.reg [1, 2, 3, 7, 8, 18] f_ref11_Least_r5) (.ite (.t 18) .nop (.exit 0))) (.seq (.blk 1 (.seq (.reg [1, 2, 3, 7, 8, 9] f_ref11_Least_r6) (.seq (.reg [1, 2, 3, 7, 8, 9, 34] f_ref11_Least_r7) (.ite (.t 34) (.reg [1, 2, 3, 7, 8] f_ref11_Least_r8) .nop)))) (.reg [1, 2, 3, 7, 8] f_ref11_Least_r9)))

def f_ref11_Least_r11 : List Abs.Op := [
  ⟨some 55, none, false, .mv (.t 7)⟩,
  ⟨some 6, none, false, .mv (.t 55)⟩]

def a_ref11_Least : Ann := ⟨[(10, [6]), (6, [1, 2, 3, 7, 8]), (9, [1, 2, 3, 7, 8]), (8, [1, 2, 3, 7, 8, 9, 34]), (7, [1, 2, 3, 7, 8, 9]), (5, [1, 2, 3, 7, 8, 18]), (4, [1, 2, 3, 7, 8]), (3, [1, 2, 3, 7]), (2, [6]), (1, [1, 2, 3, 14]), (0, [1, 2, 3])], [(0, [1, 2, 3, 7, 8])], [], [], [], [], [], [], [], []⟩
def f_ref11_Least : Abs.Fn := ⟨3, [.t 6],
  (.seq (.reg [1, 2, 3] f_ref11_Least_r0) (.seq (.seq (.reg [1, 2, 3, 14] f_ref11_Least_r1) (.ite (.t 14) (.seq (.reg [6] f_ref11_Least_r2) .ret) .nop)) (.seq (.reg [1, 2, 3, 7] f_ref11_Least_r3) (.seq (.seq (.reg [1, 2, 3, 7, 8] f_ref11_Least_r4) (.blk 0 (.loop [1, 2, 3, 7, 8] false f_ref11_Least_l10))) (.seq (.reg [6] f_ref11_Least_r11) .ret)))))⟩

theorem e_ref11_Least_r0 : type_of% f_ref11_Least_r0.eq_1 := by_rfl f_ref11_Least_r0.eq_1
theorem e_ref11_Least_r1 : type_of% f_ref11_Least_r1.eq_1 := by_rfl f_ref11_Least_r1.eq_1
theorem e_ref11_Least_r2 : type_of% f_ref11_Least_r2.eq_1 := by_rfl f_ref11_Least_r2.eq_1
theorem e_ref11_Least_r3 : type_of% f_ref11_Least_r3.eq_1 := by_rfl f_ref11_Least_r3.eq_1
theorem e_ref11_Least_r4 : type_of% f_ref11_Least_r4.eq_1 := by_rfl f_ref11_Least_r4.eq_1
theorem e_ref11_Least_r5 : type_of% f_ref11_Least_r5.eq_1 := by_rfl f_ref11_Least_r5.eq_1
theorem e_ref11_Least_r6 : type_of% f_ref11_Least_r6.eq_1 := by_rfl f_ref11_Least_r6.eq_1
theorem e_ref11_Least_r7 : type_of% f_ref11_Least_r7.eq_1 := by_rfl f_ref11_Least_r7.eq_1
theorem e_ref11_Least_r8 : type_of% f_ref11_Least_r8.eq_1 := by_rfl f_ref11_Least_r8.eq_1
theorem e_ref11_Least_r9 : type_of% f_ref11_Least_r9.eq_1 := by_rfl f_ref11_Least_r9.eq_1
theorem e_ref11_Least_l10 : type_of% f_ref11_Least_l10.eq_1 := by_rfl f_ref11_Least_l10.eq_1
theorem e_ref11_Least_r11 : type_of% f_ref11_Least_r11.eq_1 := by_rfl f_ref11_Least_r11.eq_1
theorem e_ref11_Least : type_of% f_ref11_Least.eq_1 := by_rfl f_ref11_Least.eq_1
theorem ok_ref11_Least : fnC Try.prog a_ref11_Least Try.f24 = some f_ref11_Least := by kernel_rfl

/-! 25 fumarole/fumarolelaw11.some -/
def f_law11_some_r0 : List Abs.Op := [
  ⟨some 2, none, false, .mv (.c (.bool false))⟩]

def f_law11_some_r1 : List Abs.Op := [
  ⟨some 3, none, false, .mv (.c (.int .i64 0))⟩]

def f_law11_some_r2 : List Abs.Op := [
  ⟨some 4, none, false, .mv (.t 3)⟩,
  ⟨some 5, none, false, .mv (.t 0)⟩,
  ⟨some 6, none, false, .lenS (.t 5)⟩,
  ⟨some 7, none, false, .bin .lss (.t 4) (.t 6)⟩]

def f_law11_some_r3 : List Abs.Op := [
  ⟨some 10, none, false, .mv (.t 0)⟩,
  ⟨some 11, none, false, .mv (.t 3)⟩,
  ⟨some 12, none, false, .idxS 3 (.t 10) (.t 11)⟩,
  ⟨some 13, none, false, .fadr 2 (.t 12)⟩,
  ⟨some 14, none, false, .ld false 1 (.t 13)⟩,
  ⟨some 15, none, false, .lenS (.t 14)⟩,
  ⟨some 16, none, false, .bin .gtr (.t 15) (.c (.int .i64 25))⟩]

def f_law11_some_r4 : List Abs.Op := [
  ⟨some 2, none, false, .mv (.c (.bool false))⟩]

def f_law11_some_r5 : List Abs.Op := [
  ⟨some 8, none, false, .mv (.t 3)⟩,
  ⟨some 9, none, false, .bin .add (.t 8) (.c (.int .i64 1))⟩,
  ⟨some 3, none, false, .mv (.t 9)⟩]

def f_law11_some_l6 : Abs.Cmd :=
  (.seq (.seq (.reg [0, 3, 7] f_law11_some_r2) (.ite (.t 7) .nop (.exit 0))) (.seq (.blk 1 (.seq (.reg [0, 3, 16] f_law11_some_r3) (.ite (.t 16) (.seq (.reg [2] f_law11_some_r4) .ret) .nop))) (.reg [0, 3] f_law11_some_r5)))

def f_law11_some_r7 : List Abs.Op := [
  ⟨some 17, none, false, .mv (.t 0)⟩,
  ⟨some 18, none, false, .lenS (.t 17)⟩,
  ⟨some 19, none, false, .bin .leq (.t 18) (.c (.int .i64 15))⟩,
  ⟨some 2, none, false, .mv (.t 19)⟩]

def a_law11_some : Ann := ⟨[(6, [2]), (3, [0, 3]), (5, [2]), (4, [0, 3, 16]), (2, [0, 3, 7]), (1, [0, 3]), (0, [0])], [(0, [0, 3])], [], [], [], [], [], [], [], []⟩
def f_law11_some : Abs.Fn := ⟨1, [.t 2],
  (.seq (.reg [0] f_law11_some_r0) (.seq (.seq (.reg [0, 3] f_law11_some_r1) (.blk 0 (.loop [0, 3] false f_law11_some_l6))) (.seq (.reg [2] f_law11_some_r7) .ret)))⟩

theorem e_law11_some_r0 : type_of% f_law11_some_r0.eq_1 := by_rfl f_law11_some_r0.eq_1
theorem e_law11_some_r1 : type_of% f_law11_some_r1.eq_1 := by_rfl f_law11_some_r1.eq_1
theorem e_law11_some_r2 : type_of% f_law11_some_r2.eq_1 := by_rfl f_law11_some_r2.eq_1
theorem e_law11_some_r3 : type_of% f_law11_some_r3.eq_1 := by_rfl f_law11_some_r3.eq_1
theorem e_law11_some_r4 : type_of% f_law11_some_r4.eq_1 := by_rfl f_law11_some_r4.eq_1
theorem e_law11_some_r5 : type_of% f_law11_some_r5.eq_1 := by_rfl f_law11_some_r5.eq_1
theorem e_law11_some_l6 : type_of% f_law11_some_l6.eq_1 := by_rfl f_law11_some_l6.eq_1
theorem e_law11_some_r7 : type_of% f_law11_some_r7.eq_1 := by_rfl f_law11_some_r7.eq_1
theorem e_law11_some : type_of% f_law11_some.eq_1 := by_rfl f_law11_some.eq_1
theorem ok_law11_some : fnC Try.prog a_law11_some Try.f25 = some f_law11_some := by kernel_rfl

/-! 26 fumarole/fumaroleref11.Springs -/
def f_ref11_Springs_r0 : List Abs.Op := [
  ⟨some 2, none, false, .mv (.c (.bool false))⟩]

def f_ref11_Springs_r1 : List Abs.Op := [
  ⟨some 6, none, false, .mv (.t 0)⟩,
  ⟨some 7, none, false, .lenS (.t 6)⟩,
  ⟨some 8, none, false, .bin .lss (.t 7) (.c (.int .i64 1))⟩,
  ⟨some 9, none, false, .mv (.t 8)⟩,
  ⟨some 10, some (9, false), false, .mv (.t 0)⟩,
  ⟨some 11, some (9, false), false, .lenS (.t 10)⟩,
  ⟨some 12, some (9, false), false, .bin .gtr (.t 11) (.c (.int .i64 10))⟩,
  ⟨some 13, none, false, .pick (.t 9) (.c (.bool true)) (.t 12)⟩]

def f_ref11_Springs_r2 : List Abs.Op := [
  ⟨some 2, none, false, .mv (.c (.bool false))⟩]

def f_ref11_Springs_r3 : List Abs.Op := [
  ⟨some 3, none, false, .mv (.c (.int .i64 0))⟩]

def f_ref11_Springs_r4 : List Abs.Op := [
  ⟨some 14, none, false, .mv (.t 3)⟩,
  ⟨some 15, none, false, .mv (.t 0)⟩,
  ⟨some 16, none, false, .lenS (.t 15)⟩,
  ⟨some 17, none, false, .bin .lss (.t 14) (.t 16)⟩]

def f_ref11_Springs_r5 : List Abs.Op := [
  ⟨some 20, none, false, .mv (.t 0)⟩,
  ⟨some 21, none, false, .mv (.t 3)⟩,
  ⟨some 22, none, false, .idxS 3 (.t 20) (.t 21)⟩,
  ⟨some 23, none, false, .ld true 3 (.t 22)⟩,
  ⟨some 4, none, false, .alcv [] [(.int .i64 0), (.int .i64 0), .nils]⟩,
  ⟨none, none, false, .stv 4 [] 3 4 (.t 23)⟩]

def f_ref11_Springs_r6 : List Abs.Op := [
  ⟨some 24, none, true, .fadr 0 (.t 4)⟩,
  ⟨some 25, none, true, .ldv 4 false 1 24⟩,
  ⟨some 26, none, true, .call false (.c (.fn i_ref11_In [] [])) [(.t 25), (.c (.int .i64 0)), (.c (.int .i64 1000000000))]⟩,
  ⟨some 27, none, true, .un .not (.t 26)⟩,
  ⟨some 28, none, true, .mv (.t 27)⟩,
  ⟨some 29, some (28, false), true, .fadr 1 (.t 4)⟩,
  ⟨some 30, some (28, false), true, .ldv 4 false 1 29⟩,
  ⟨some 31, some (28, false), true, .call false (.c (.fn i_ref11_In [] [])) [(.t 30), (.c (.int .i64 0)), (.c (.int .i64 1000000000))]⟩,
  ⟨some 32, some (28, false), true, .un .not (.t 31)⟩,
  ⟨some 33, none, true, .pick (.t 28) (.c (.bool true)) (.t 32)⟩,
  ⟨some 34, none, true, .mv (.t 33)⟩,
  ⟨some 35, some (34, false), true, .fadr 2 (.t 4)⟩,
  ⟨some 36, some (34, false), true, .ldv 4 false 1 35⟩,
  ⟨some 37, some (34, false), true, .lenS (.t 36)⟩,
  ⟨some 38, some (34, false), true, .mv (.t 0)⟩,
  ⟨some 39, some (34, false), true, .idxS 3 (.t 38) (.c (.int .i64 0))⟩,
  ⟨some 40, some (34, false), true, .fadr 2 (.t 39)⟩,
  ⟨some 41, some (34, false), true, .ld false 1 (.t 40)⟩,
  ⟨some 42, some (34, false), true, .lenS (.t 41)⟩,
  ⟨some 43, some (34, false), false, .bin .neq (.t 37) (.t 42)⟩,
  ⟨some 44, none, false, .pick (.t 34) (.c (.bool true)) (.t 43)⟩,
  ⟨some 45, none, false, .mv (.t 44)⟩,
  ⟨some 46, some (45, false), false, .fadr 2 (.t 4)⟩,
  ⟨some 47, some (45, false), false, .ldv 4 false 1 46⟩,
  ⟨some 48, some (45, false), false, .lenS (.t 47)⟩,
  ⟨some 49, some (45, false), false, .call false (.c (.fn i_ref11_In [] [])) [(.t 48), (.c (.int .i64 1)), (.c (.int .i64 20))]⟩,
  ⟨some 50, some (45, false), false, .un .not (.t 49)⟩,
  ⟨some 51, none, false, .pick (.t 45) (.c (.bool true)) (.t 50)⟩]

def f_ref11_Springs_r7 : List Abs.Op := [
  ⟨some 2, none, false, .mv (.c (.bool false))⟩]

def f_ref11_Springs_r8 : List Abs.Op := [
  ⟨some 5, none, false, .mv (.c (.int .i64 0))⟩]

def f_ref11_Springs_r9 : List Abs.Op := [
  ⟨some 52, none, false, .mv (.t 5)⟩,
  ⟨some 53, none, false, .fadr 2 (.t 4)⟩,
  ⟨some 54, none, false, .ldv 4 false 1 53⟩,
  ⟨some 55, none, false, .lenS (.t 54)⟩,
  ⟨some 56, none, false, .bin .lss (.t 52) (.t 55)⟩]

def f_ref11_Springs_r10 : List Abs.Op := [
  ⟨some 59, none, true, .fadr 2 (.t 4)⟩,
  ⟨some 60, none, true, .ldv 4 false 1 59⟩,
  ⟨some 61, none, true, .mv (.t 5)⟩,
  ⟨some 62, none, true, .idxS 2 (.t 60) (.t 61)⟩,
  ⟨some 63, none, true, .fadr 0 (.t 62)⟩,
  ⟨some 64, none, true, .ld false 1 (.t 63)⟩,
  ⟨some 65, none, true, .call false (.c (.fn i_ref11_In [] [])) [(.t 64), (.c (.int .i64 0)), (.c (.int .i64 1000))]⟩,
  ⟨some 66, none, true, .un .not (.t 65)⟩,
  ⟨some 67, none, true, .mv (.t 66)⟩,
  ⟨some 68, some (67, false), true, .fadr 2 (.t 4)⟩,
  ⟨some 69, some (67, false), true, .ldv 4 false 1 68⟩,
  ⟨some 70, some (67, false), true, .mv (.t 5)⟩,
  ⟨some 71, some (67, false), true, .idxS 2 (.t 69) (.t 70)⟩,
  ⟨some 72, some (67, false), true, .fadr 1 (.t 71)⟩,
  ⟨some 73, some (67, false), true, .ld false 1 (.t 72)⟩,
  ⟨some 74, some (67, false), true, .call false (.c (.fn i_ref11_In [] [])) [(.t 73), (.c (.int .i64 0)), (.c (.int .i64 1000))]⟩,
  ⟨some 75, some (67, false), true, .un .not (.t 74)⟩,
  ⟨some 76, none, true, .pick (.t 67) (.c (.bool true)) (.t 75)⟩,
  ⟨some 77, none, true, .mv (.t 76)⟩,
  ⟨some 78, some (77, false), true, .fadr 2 (.t 4)⟩,
  ⟨some 79, some (77, false), true, .ldv 4 false 1 78⟩,
  ⟨some 80, some (77, false), true, .mv (.t 5)⟩,
  ⟨some 81, some (77, false), true, .idxS 2 (.t 79) (.t 80)⟩,
  ⟨some 82, some (77, false), true, .fadr 0 (.t 81)⟩,
  ⟨some 83, some (77, false), true, .ld false 1 (.t 82)⟩,
  ⟨some 84, some (77, false), true, .fadr 2 (.t 4)⟩,
  ⟨some 85, some (77, false), true, .ldv 4 false 1 84⟩,
  ⟨some 86, some (77, false), true, .mv (.t 5)⟩,
  ⟨some 87, some (77, false), true, .idxS 2 (.t 85) (.t 86)⟩,
  ⟨some 88, some (77, false), true, .fadr 1 (.t 87)⟩,
  ⟨some 89, some (77, false), true, .ld false 1 (.t 88)⟩,
  ⟨some 90, some (77, false), false, .bin .gtr (.t 83) (.t 89)⟩,
  ⟨some 91, none, false, .pick (.t 77) (.c (.bool true)) (.t 90)⟩]

def f_ref11_Springs_r11 : List Abs.Op := [
  ⟨some 2, none, false, .mv (.c (.bool false))⟩]

def f_ref11_Springs_r12 : List Abs.Op := [
  ⟨some 57, none, false, .mv (.t 5)⟩,
  ⟨some 58, none, false, .bin .add (.t 57) (.c (.int .i64 1))⟩,
  ⟨some 5, none, false, .mv (.t 58)⟩]

def f_ref11_Springs_l13 : Abs.Cmd :=
  (.seq (.seq (.reg [0, 3, 4, 5, 56] f_ref11_Springs_r9) (.ite (.t 56) .nop (.exit 2))) (.seq (.blk 3 (.seq (.reg [0, 3, 4, 5, 91] f_ref11_Springs_r10) (.ite (.t 91) (.seq (.reg [2] f_ref11_Springs_r11) .ret) .nop))) (.reg [0, 3, 4, 5] f_ref11_Springs_r12)))

def f_ref11_Springs_r14 : List Abs.Op := [
  ⟨some 18, none, false, .mv (.t 3)⟩,
  ⟨some 19, none, false, .bin .add (.t 18) (.c (.int .i64 1))⟩,
  ⟨some 3, none, false, .mv (.t 19)⟩]

def f_ref11_Springs_l15 : Abs.Cmd :=
  (.seq (.seq (.reg [0, 3, 17] f_ref11_Springs_r4) (.ite (.t 17) .nop (.exit 0))) (.seq (.blk 1 (.seq (.reg [0, 3, 4] f_ref11_Springs_r5) (.seq (.seq (.reg [0, 3, 4, 51] f_ref11_Springs_r6) (.ite (.t 51) (.seq (.reg [2] f_ref11_Springs_r7) .ret) .nop)) (.seq (.reg [0, 3, 4, 5] f_ref11_Springs_r8) (.blk 2 (.loop [0, 3, 4, 5] false f_ref11_Springs_l13)))))) (.reg [0, 3] f_ref11_Springs_r14)))

def f_ref11_Springs_r16 : List Abs.Op := [
  ⟨some 2, none, false, .mv (.c (.bool true))⟩]

def a_ref11_Springs : Ann := ⟨[(14, [2]), (5, [0, 3]), (11, [0, 3, 4, 5]), (13, [2]), (12, [0, 3, 4, 5, 91]), (10, [0, 3, 4, 5, 56]), (9, [0, 3, 4, 5]), (8, [2]), (7, [0, 3, 4, 51]), (6, [0, 3, 4]), (4, [0, 3, 17]), (3, [0, 3]), (2, [2]), (1, [0, 13]), (0, [0])], [(2, [0, 3, 4, 5]), (0, [0, 3])], [], [4], [4], [], [], [], [], []⟩
def f_ref11_Springs : Abs.Fn := ⟨1, [.t 2],
  (.seq (.reg [0] f_ref11_Springs_r0) (.seq (.seq (.reg [0, 13] f_ref11_Springs_r1) (.ite (.t 13) (.seq (.reg [2] f_ref11_Springs_r2) .ret) .nop)) (.seq (.seq (.reg [0, 3] f_ref11_Springs_r3) (.blk 0 (.loop [0, 3] false f_ref11_Springs_l15))) (.seq (.reg [2] f_ref11_Springs_r16) .ret))))⟩

theorem e_ref11_Springs_r0 : type_of% f_ref11_Springs_r0.eq_1 := by_rfl f_ref11_Springs_r0.eq_1
theorem e_ref11_Springs_r1 : type_of% f_ref11_Springs_r1.eq_1 := by_rfl f_ref11_Springs_r1.eq_1
theorem e_ref11_Springs_r2 : type_of% f_ref11_Springs_r2.eq_1 := by_rfl f_ref11_Springs_r2.eq_1
theorem e_ref11_Springs_r3 : type_of% f_ref11_Springs_r3.eq_1 := by_rfl f_ref11_Springs_r3.eq_1
theorem e_ref11_Springs_r4 : type_of% f_ref11_Springs_r4.eq_1 := by_rfl f_ref11_Springs_r4.eq_1
theorem e_ref11_Springs_r5 : type_of% f_ref11_Springs_r5.eq_1 := by_rfl f_ref11_Springs_r5.eq_1
theorem e_ref11_Springs_r6 : type_of% f_ref11_Springs_r6.eq_1 := by_rfl f_ref11_Springs_r6.eq_1
theorem e_ref11_Springs_r7 : type_of% f_ref11_Springs_r7.eq_1 := by_rfl f_ref11_Springs_r7.eq_1
theorem e_ref11_Springs_r8 : type_of% f_ref11_Springs_r8.eq_1 := by_rfl f_ref11_Springs_r8.eq_1
theorem e_ref11_Springs_r9 : type_of% f_ref11_Springs_r9.eq_1 := by_rfl f_ref11_Springs_r9.eq_1
theorem e_ref11_Springs_r10 : type_of% f_ref11_Springs_r10.eq_1 := by_rfl f_ref11_Springs_r10.eq_1
theorem e_ref11_Springs_r11 : type_of% f_ref11_Springs_r11.eq_1 := by_rfl f_ref11_Springs_r11.eq_1
theorem e_ref11_Springs_r12 : type_of% f_ref11_Springs_r12.eq_1 := by_rfl f_ref11_Springs_r12.eq_1
theorem e_ref11_Springs_l13 : type_of% f_ref11_Springs_l13.eq_1 := by_rfl f_ref11_Springs_l13.eq_1
theorem e_ref11_Springs_r14 : type_of% f_ref11_Springs_r14.eq_1 := by_rfl f_ref11_Springs_r14.eq_1
theorem e_ref11_Springs_l15 : type_of% f_ref11_Springs_l15.eq_1 := by_rfl f_ref11_Springs_l15.eq_1
theorem e_ref11_Springs_r16 : type_of% f_ref11_Springs_r16.eq_1 := by_rfl f_ref11_Springs_r16.eq_1
theorem e_ref11_Springs : type_of% f_ref11_Springs.eq_1 := by_rfl f_ref11_Springs.eq_1
theorem ok_ref11_Springs : fnC Try.prog a_ref11_Springs Try.f26 = some f_ref11_Springs := by kernel_rfl

/-! 27 fumarole/fumaroleref11.Takes -/
def f_ref11_Takes_r0 : List Abs.Op := [
  ⟨some 4, none, false, .mv (.c (.bool false))⟩]

def f_ref11_Takes_r1 : List Abs.Op := [
  ⟨some 5, none, false, .mv (.c (.int .i64 0))⟩]

def f_ref11_Takes_r2 : List Abs.Op := [
  ⟨some 6, none, false, .mv (.t 5)⟩,
  ⟨some 7, none, false, .mv (.t 1)⟩,
  ⟨some 8, none, false, .lenS (.t 7)⟩,
  ⟨some 9, none, false, .bin .lss (.t 6) (.t 8)⟩]

def f_ref11_Takes_r3 : List Abs.Op := [
  ⟨some 12, none, false, .mv (.t 1)⟩,
  ⟨some 13, none, false, .mv (.t 5)⟩,
  ⟨some 14, none, false, .idxS 1 (.t 12) (.t 13)⟩,
  ⟨some 15, none, false, .ld false 1 (.t 14)⟩,
  ⟨some 16, none, false, .call false (.c (.fn i_ref11_In [] [])) [(.t 15), (.c (.int .i64 0)), (.c (.int .i64 1000000))]⟩,
  ⟨some 17, none, false, .un .not (.t 16)⟩]

def f_ref11_Takes_r4 : List Abs.Op := [
  ⟨some 4, none, false, .mv (.c (.bool false))⟩]

def f_ref11_Takes_r5 : List Abs.Op := [
  ⟨some 10, none, false, .mv (.t 5)⟩,
  ⟨some 11, none, false, .bin .add (.t 10) (.c (.int .i64 1))⟩,
  ⟨some 5, none, false, .mv (.t 11)⟩]

def f_ref11_Takes_l6 : Abs.Cmd :=
  (.seq (.seq (.reg [0, 1, 5, 9] f_ref11_Takes_r2) (.ite (.t 9) .nop (.exit 0))) (.seq (.blk 1 (.seq (.reg [0, 1, 5, 17] f_ref11_Takes_r3) (.ite (.t 17) (.seq (.reg [4] f_ref11_Takes_r4) .ret) .nop))) (.reg [0, 1, 5] f_ref11_Takes_r5)))

def f_ref11_Takes_r7 : List Abs.Op := [
  ⟨some 18, none, false, .mv (.t 1)⟩,
  ⟨some 19, none, false, .lenS (.t 18)⟩,
  ⟨some 20, none, false, .mv (.t 0)⟩,
  ⟨some 21, none, false, .idxS 3 (.t 20) (.c (.int .i64 0))⟩,
  ⟨some 22, none, false, .fadr 2 (.t 21)⟩,
  ⟨some 23, none, false, .ld false 1 (.t 22)⟩,
  ⟨some 24, none, false, .lenS (.t 23)⟩,
  ⟨some 25, none, false, .bin .eql (.t 19) (.t 24)⟩,
  ⟨some 4, none, false, .mv (.t 25)⟩]

def a_ref11_Takes : Ann := ⟨[(6, [4]), (3, [0, 1, 5]), (5, [4]), (4, [0, 1, 5, 17]), (2, [0, 1, 5, 9]), (1, [0, 1, 5]), (0, [0, 1])], [(0, [0, 1, 5])], [], [], [], [], [], [], [], []⟩
def f_ref11_Takes : Abs.Fn := ⟨2, [.t 4],
  (.seq (.reg [0, 1] f_ref11_Takes_r0) (.seq (.seq (.reg [0, 1, 5] f_ref11_Takes_r1) (.blk 0 (.loop [0, 1, 5] false f_ref11_Takes_l6))) (.seq (.reg [4] f_ref11_Takes_r7) .ret)))⟩

theorem e_ref11_Takes_r0 : type_of% f_ref11_Takes_r0.eq_1 := by_rfl f_ref11_Takes_r0.eq_1
theorem e_ref11_Takes_r1 : type_of% f_ref11_Takes_r1.eq_1 := by_rfl f_ref11_Takes_r1.eq_1
theorem e_ref11_Takes_r2 : type_of% f_ref11_Takes_r2.eq_1 := by_rfl f_ref11_Takes_r2.eq_1
theorem e_ref11_Takes_r3 : type_of% f_ref11_Takes_r3.eq_1 := by_rfl f_ref11_Takes_r3.eq_1
theorem e_ref11_Takes_r4 : type_of% f_ref11_Takes_r4.eq_1 := by_rfl f_ref11_Takes_r4.eq_1
theorem e_ref11_Takes_r5 : type_of% f_ref11_Takes_r5.eq_1 := by_rfl f_ref11_Takes_r5.eq_1
theorem e_ref11_Takes_l6 : type_of% f_ref11_Takes_l6.eq_1 := by_rfl f_ref11_Takes_l6.eq_1
theorem e_ref11_Takes_r7 : type_of% f_ref11_Takes_r7.eq_1 := by_rfl f_ref11_Takes_r7.eq_1
theorem e_ref11_Takes : type_of% f_ref11_Takes.eq_1 := by_rfl f_ref11_Takes.eq_1
theorem ok_ref11_Takes : fnC Try.prog a_ref11_Takes Try.f27 = some f_ref11_Takes := by kernel_rfl

/-! 28 fumarole/fumarolelaw11.Springs -/
def f_law11_Springs_r0 : List Abs.Op := [
  ⟨some 2, none, false, .mv (.c .nils)⟩]

def f_law11_Springs_r1 : List Abs.Op := [
  ⟨some 3, none, false, .nilb 3⟩]

def f_law11_Springs_r2 : List Abs.Op := [
  ⟨some 4, none, false, .mv (.c (.int .i64 0))⟩]

def f_law11_Springs_r3 : List Abs.Op := [
  ⟨some 7, none, false, .mv (.t 4)⟩,
  ⟨some 8, none, false, .mv (.t 0)⟩,
  ⟨some 9, none, false, .lenS (.t 8)⟩,
  ⟨some 10, none, false, .bin .lss (.t 7) (.t 9)⟩]

def f_law11_Springs_r4 : List Abs.Op := [
  ⟨some 13, none, true, .mv (.t 0)⟩,
  ⟨some 14, none, true, .mv (.t 4)⟩,
  ⟨some 15, none, true, .idxS 3 (.t 13) (.t 14)⟩,
  ⟨some 16, none, true, .fadr 0 (.t 15)⟩,
  ⟨some 17, none, true, .ld false 1 (.t 16)⟩,
  ⟨some 18, none, true, .mv (.t 0)⟩,
  ⟨some 19, none, true, .mv (.t 4)⟩,
  ⟨some 20, none, true, .idxS 3 (.t 18) (.t 19)⟩,
  ⟨some 21, none, true, .fadr 1 (.t 20)⟩,
  ⟨some 22, none, true, .ld false 1 (.t 21)⟩,
  ⟨some 23, none, true, .bld [(.int .i64 0), (.int .i64 0), .nils] [(0, 1, (.t 17)), (1, 1, (.t 22))]⟩,
  ⟨some 5, none, true, .alcv [] [(.int .i64 0), (.int .i64 0), .nils]⟩,
  ⟨none, none, false, .stv 5 [(2, 2)] 3 5 (.t 23)⟩]

def f_law11_Springs_r5 : List Abs.Op := [
  ⟨some 6, none, false, .mv (.c (.int .i64 0))⟩]

def f_law11_Springs_r6 : List Abs.Op := [
  ⟨some 24, none, false, .mv (.t 6)⟩,
  ⟨some 25, none, false, .mv (.t 0)⟩,
  ⟨some 26, none, false, .mv (.t 4)⟩,
  ⟨some 27, none, false, .idxS 3 (.t 25) (.t 26)⟩,
  ⟨some 28, none, false, .fadr 2 (.t 27)⟩,
  ⟨some 29, none, false, .ld false 1 (.t 28)⟩,
  ⟨some 30, none, false, .lenS (.t 29)⟩,
  ⟨some 31, none, false, .bin .lss (.t 24) (.t 30)⟩]

def f_law11_Springs_r7 : List Abs.Op := [
  ⟨some 34, none, true, .fadr 2 (.t 5)⟩,
  ⟨some 35, none, true, .ldv 5 false 1 34⟩,
  ⟨some 36, none, true, .mv (.t 0)⟩,
  ⟨some 37, none, true, .mv (.t 4)⟩,
  ⟨some 38, none, true, .idxS 3 (.t 36) (.t 37)⟩,
  ⟨some 39, none, true, .fadr 2 (.t 38)⟩,
  ⟨some 40, none, true, .ld false 1 (.t 39)⟩,
  ⟨some 41, none, true, .mv (.t 6)⟩,
  ⟨some 42, none, true, .idxS 2 (.t 40) (.t 41)⟩,
  ⟨some 43, none, true, .fadr 0 (.t 42)⟩,
  ⟨some 44, none, true, .ld false 1 (.t 43)⟩,
  ⟨some 45, none, true, .mv (.t 0)⟩,
  ⟨some 46, none, true, .mv (.t 4)⟩,
  ⟨some 47, none, true, .idxS 3 (.t 45) (.t 46)⟩,
  ⟨some 48, none, true, .fadr 2 (.t 47)⟩,
  ⟨some 49, none, true, .ld false 1 (.t 48)⟩,
  ⟨some 50, none, true, .mv (.t 6)⟩,
  ⟨some 51, none, true, .idxS 2 (.t 49) (.t 50)⟩,
  ⟨some 52, none, true, .fadr 1 (.t 51)⟩,
  ⟨some 53, none, true, .ld false 1 (.t 52)⟩,
  ⟨some 54, none, true, .bld [(.int .i64 0), (.int .i64 0)] [(0, 1, (.t 44)), (1, 1, (.t 53))]⟩,
  ⟨some 55, none, true, .bsi 1 2 [(.int .i64 0), (.int .i64 0)] [(0, 2, (.t 54))]⟩,
  ⟨some 56, none, false, .app 2 16 (.t 35) (.t 55)⟩,
  ⟨some 57, none, false, .fadr 2 (.t 5)⟩,
  ⟨none, none, false, .stv 5 [(0, 2)] 1 57 (.t 56)⟩]

def f_law11_Springs_r8 : List Abs.Op := [
  ⟨some 32, none, false, .mv (.t 6)⟩,
  ⟨some 33, none, false, .bin .add (.t 32) (.c (.int .i64 1))⟩,
  ⟨some 6, none, false, .mv (.t 33)⟩]

def f_law11_Springs_l9 : Abs.Cmd :=
  (.seq (.seq (.reg [0, 3, 4, 5, 6, 31] f_law11_Springs_r6) (.ite (.t 31) .nop (.exit 2))) (.seq (.blk 3 (.reg [0, 3, 4, 5, 6] f_law11_Springs_r7)) (.reg [0, 3, 4, 5, 6] f_law11_Springs_r8)))

def f_law11_Springs_r10 : List Abs.Op := [
  ⟨some 58, none, false, .mv (.t 3)⟩,
  ⟨some 59, none, false, .ldv 5 true 3 5⟩,
  ⟨some 60, none, false, .bsi 1 3 [(.int .i64 0), (.int .i64 0), .nils] [(0, 3, (.t 59))]⟩,
  ⟨some 61, none, false, .app 3 40 (.t 58) (.t 60)⟩,
  ⟨some 3, none, false, .mv (.t 61)⟩]

def f_law11_Springs_r11 : List Abs.Op := [
  ⟨some 11, none, false, .mv (.t 4)⟩,
  ⟨some 12, none, false, .bin .add (.t 11) (.c (.int .i64 1))⟩,
  ⟨some 4, none, false, .mv (.t 12)⟩]

def f_law11_Springs_l12 : Abs.Cmd :=
  (.seq (.seq (.reg [0, 3, 4, 10] f_law11_Springs_r3) (.ite (.t 10) .nop (.exit 0))) (.seq (.blk 1 (.seq (.reg [0, 3, 4, 5] f_law11_Springs_r4) (.seq (.seq (.reg [0, 3, 4, 5, 6] f_law11_Springs_r5) (.blk 2 (.loop [0, 3, 4, 5, 6] false f_law11_Springs_l9))) (.reg [0, 3, 4] f_law11_Springs_r10)))) (.reg [0, 3, 4] f_law11_Springs_r11)))

def f_law11_Springs_r13 : List Abs.Op := [
  ⟨some 62, none, false, .mv (.t 3)⟩,
  ⟨some 2, none, false, .mv (.t 62)⟩]

def a_law11_Springs : Ann := ⟨[(11, [2]), (4, [0, 3, 4]), (10, [0, 3, 4]), (8, [0, 3, 4, 5, 6]), (9, [0, 3, 4, 5, 6]), (7, [0, 3, 4, 5, 6, 31]), (6, [0, 3, 4, 5, 6]), (5, [0, 3, 4, 5]), (3, [0, 3, 4, 10]), (2, [0, 3, 4]), (1, [0, 3]), (0, [0])], [(2, [0, 3, 4, 5, 6]), (0, [0, 3, 4])], [0], [3, 5], [5], [(5012, [(2, 2)]), (9024, [(0, 2)])], [], [], [], []⟩
def f_law11_Springs : Abs.Fn := ⟨1, [.t 2],
  (.seq (.reg [0] f_law11_Springs_r0) (.seq (.reg [0, 3] f_law11_Springs_r1) (.seq (.seq (.reg [0, 3, 4] f_law11_Springs_r2) (.blk 0 (.loop [0, 3, 4] true f_law11_Springs_l12))) (.seq (.reg [2] f_law11_Springs_r13) .ret))))⟩

theorem e_law11_Springs_r0 : type_of% f_law11_Springs_r0.eq_1 := by_rfl f_law11_Springs_r0.eq_1
theorem e_law11_Springs_r1 : type_of% f_law11_Springs_r1.eq_1 := by_rfl f_law11_Springs_r1.eq_1
theorem e_law11_Springs_r2 : type_of% f_law11_Springs_r2.eq_1 := by_rfl f_law11_Springs_r2.eq_1
theorem e_law11_Springs_r3 : type_of% f_law11_Springs_r3.eq_1 := by_rfl f_law11_Springs_r3.eq_1
theorem e_law11_Springs_r4 : type_of% f_law11_Springs_r4.eq_1 := by_rfl f_law11_Springs_r4.eq_1
theorem e_law11_Springs_r5 : type_of% f_law11_Springs_r5.eq_1 := by_rfl f_law11_Springs_r5.eq_1
theorem e_law11_Springs_r6 : type_of% f_law11_Springs_r6.eq_1 := by_rfl f_law11_Springs_r6.eq_1
theorem e_law11_Springs_r7 : type_of% f_law11_Springs_r7.eq_1 := by_rfl f_law11_Springs_r7.eq_1
theorem e_law11_Springs_r8 : type_of% f_law11_Springs_r8.eq_1 := by_rfl f_law11_Springs_r8.eq_1
theorem e_law11_Springs_l9 : type_of% f_law11_Springs_l9.eq_1 := by_rfl f_law11_Springs_l9.eq_1
theorem e_law11_Springs_r10 : type_of% f_law11_Springs_r10.eq_1 := by_rfl f_law11_Springs_r10.eq_1
theorem e_law11_Springs_r11 : type_of% f_law11_Springs_r11.eq_1 := by_rfl f_law11_Springs_r11.eq_1
theorem e_law11_Springs_l12 : type_of% f_law11_Springs_l12.eq_1 := by_rfl f_law11_Springs_l12.eq_1
theorem e_law11_Springs_r13 : type_of% f_law11_Springs_r13.eq_1 := by_rfl f_law11_Springs_r13.eq_1
theorem e_law11_Springs : type_of% f_law11_Springs.eq_1 := by_rfl f_law11_Springs.eq_1
theorem ok_law11_Springs : fnC Try.prog a_law11_Springs Try.f28 = some f_law11_Springs := by kernel_rfl

/-! 29 fumarole/lease.Behind -/
def f_lease_Behind_r0 : List Abs.Op := [
  ⟨some 4, none, false, .mv (.c .nils)⟩,
  ⟨some 5, none, false, .mv (.c (.int .i64 0))⟩]

def f_lease_Behind_r1 : List Abs.Op := [
  ⟨some 10, none, false, .mv (.t 0)⟩,
  ⟨some 11, none, false, .mv (.t 1)⟩,
  ⟨some 12, none, false, .call false (.c (.fn i_lease_taking [] [])) [(.t 10), (.t 11)]⟩,
  ⟨some 6, none, false, .mv (.t 12)⟩]

def f_lease_Behind_r2 : List Abs.Op := [
  ⟨some 13, none, false, .mv (.t 6)⟩,
  ⟨some 14, none, false, .bin .neq (.t 13) (.c (.int .i64 0))⟩]

def f_lease_Behind_r3 : List Abs.Op := [
  ⟨some 15, none, false, .mv (.t 6)⟩,
  ⟨some 4, none, false, .mv (.c .nils)⟩,
  ⟨some 5, none, false, .mv (.t 15)⟩]

def f_lease_Behind_r4 : List Abs.Op := [
  ⟨some 7, none, false, .nilb 2⟩]

def f_lease_Behind_r5 : List Abs.Op := [
  ⟨some 16, none, false, .mv (.t 0)⟩,
  ⟨some 17, none, false, .lenS (.t 16)⟩,
  ⟨some 18, none, false, .mv (.c (.int .i64 0))⟩]

def f_lease_Behind_r6 : List Abs.Op := [
  ⟨some 19, none, false, .bin .lss (.t 18) (.t 17)⟩]

def f_lease_Behind_r7 : List Abs.Op := [
  ⟨some 20, none, false, .idxS 3 (.t 16) (.t 18)⟩,
  ⟨some 21, none, false, .ld true 3 (.t 20)⟩,
  ⟨some 9, none, false, .alcv [] [(.int .i64 0), (.int .i64 0), .nils]⟩,
  ⟨none, none, false, .stv 9 [] 3 9 (.t 21)⟩]

def f_lease_Behind_r8 : List Abs.Op := [
  ⟨some 22, none, false, .mv (.t 7)⟩,
  ⟨some 23, none, false, .ldv 9 true 3 9⟩,
  ⟨some 24, none, false, .mv (.t 1)⟩,
  ⟨some 25, none, false, .call false (.c (.fn i_lease_Spring_behind [] [])) [(.t 23), (.t 24)]⟩,
  ⟨some 26, none, false, .bsi 1 2 [(.int .i64 0), (.int .i64 0)] [(0, 2, (.t 25))]⟩,
  ⟨some 27, none, false, .app 2 16 (.t 22) (.t 26)⟩,
  ⟨some 7, none, false, .mv (.t 27)⟩]

def f_lease_Behind_r9 : List Abs.Op := [
  ⟨some 28, none, false, .bin .add (.t 18) (.c (.int .i64 1))⟩,
  ⟨some 18, none, false, .mv (.t 28)⟩]

def f_lease_Behind_l10 : Abs.Cmd :=
  (.seq (.reg [1, 7, 16, 17, 18, 19] f_lease_Behind_r6) (.seq (.ite (.t 19) .nop (.exit 0)) (.seq (.blk 1 (.seq (.reg [1, 7, 9, 16, 17, 18] f_lease_Behind_r7) (.reg [1, 7, 16, 17, 18] f_lease_Behind_r8))) (.reg [1, 7, 16, 17, 18] f_lease_Behind_r9))))

def f_lease_Behind_r11 : List Abs.Op := [
  ⟨some 29, none, false, .mv (.t 7)⟩,
  ⟨some 4, none, false, .mv (.t 29)⟩,
  ⟨some 5, none, false, .mv (.c (.int .i64 0))⟩]

def a_lease_Behind : Ann := ⟨[(10, [4, 5]), (9, [1, 7, 16, 17, 18]), (8, [1, 7, 16, 17, 18]), (7, [1, 7, 9, 16, 17, 18]), (6, [1, 7, 16, 17, 18, 19]), (5, [1, 7, 16, 17, 18]), (4, [0, 1, 7]), (3, [4, 5]), (2, [0, 1, 6, 14]), (1, [0, 1, 6]), (0, [0, 1])], [(0, [1, 7, 16, 17, 18])], [], [7, 9], [9], [], [], [], [], []⟩
def f_lease_Behind : Abs.Fn := ⟨2, [.t 4, .t 5],
  (.seq (.reg [0, 1] f_lease_Behind_r0) (.seq (.seq (.reg [0, 1, 6] f_lease_Behind_r1) (.seq (.reg [0, 1, 6, 14] f_lease_Behind_r2) (.ite (.t 14) (.seq (.reg [4, 5] f_lease_Behind_r3) .ret) .nop))) (.seq (.reg [0, 1, 7] f_lease_Behind_r4) (.seq (.seq (.reg [1, 7, 16, 17, 18] f_lease_Behind_r5) (.blk 0 (.loop [1, 7, 16, 17, 18] false f_lease_Behind_l10))) (.seq (.reg [4, 5] f_lease_Behind_r11) .ret)))))⟩

theorem e_lease_Behind_r0 : type_of% f_lease_Behind_r0.eq_1 := by_rfl f_lease_Behind_r0.eq_1
theorem e_lease_Behind_r1 : type_of% f_lease_Behind_r1.eq_1 := by_rfl f_lease_Behind_r1.eq_1
theorem e_lease_Behind_r2 : type_of% f_lease_Behind_r2.eq_1 := by_rfl f_lease_Behind_r2.eq_1
theorem e_lease_Behind_r3 : type_of% f_lease_Behind_r3.eq_1 := by_rfl f_lease_Behind_r3.eq_1
theorem e_lease_Behind_r4 : type_of% f_lease_Behind_r4.eq_1 := by_rfl f_lease_Behind_r4.eq_1
theorem e_lease_Behind_r5 : type_of% f_lease_Behind_r5.eq_1 := by_rfl f_lease_Behind_r5.eq_1
theorem e_lease_Behind_r6 : type_of% f_lease_Behind_r6.eq_1 := by_rfl f_lease_Behind_r6.eq_1
theorem e_lease_Behind_r7 : type_of% f_lease_Behind_r7.eq_1 := by_rfl f_lease_Behind_r7.eq_1
theorem e_lease_Behind_r8 : type_of% f_lease_Behind_r8.eq_1 := by_rfl f_lease_Behind_r8.eq_1
theorem e_lease_Behind_r9 : type_of% f_lease_Behind_r9.eq_1 := by_rfl f_lease_Behind_r9.eq_1
theorem e_lease_Behind_l10 : type_of% f_lease_Behind_l10.eq_1 := by_rfl f_lease_Behind_l10.eq_1
theorem e_lease_Behind_r11 : type_of% f_lease_Behind_r11.eq_1 := by_rfl f_lease_Behind_r11.eq_1
theorem e_lease_Behind : type_of% f_lease_Behind.eq_1 := by_rfl f_lease_Behind.eq_1
theorem ok_lease_Behind : fnC Try.prog a_lease_Behind Try.f29 = some f_lease_Behind := by kernel_rfl

/-! 30 fumarole/lease.Harmed -/
def f_lease_Harmed_r0 : List Abs.Op := [
  ⟨some 4, none, false, .nilb 1⟩,
  ⟨some 5, none, false, .nilb 1⟩,
  ⟨some 6, none, false, .mv (.c (.int .i64 0))⟩]

def f_lease_Harmed_r1 : List Abs.Op := [
  ⟨some 11, none, false, .mv (.t 0)⟩,
  ⟨some 12, none, false, .mv (.t 1)⟩,
  ⟨some 13, none, false, .call false (.c (.fn i_lease_taking [] [])) [(.t 11), (.t 12)]⟩,
  ⟨some 7, none, false, .mv (.t 13)⟩]

def f_lease_Harmed_r2 : List Abs.Op := [
  ⟨some 14, none, false, .mv (.t 7)⟩,
  ⟨some 15, none, false, .bin .neq (.t 14) (.c (.int .i64 0))⟩]

def f_lease_Harmed_r3 : List Abs.Op := [
  ⟨some 16, none, false, .mv (.t 7)⟩,
  ⟨some 4, none, false, .nilb 1⟩,
  ⟨some 5, none, false, .nilb 1⟩,
  ⟨some 6, none, false, .mv (.t 16)⟩]

def f_lease_Harmed_r4 : List Abs.Op := [
  ⟨some 17, none, false, .mv (.t 0)⟩,
  ⟨some 18, none, false, .lenS (.t 17)⟩,
  ⟨some 19, none, false, .mv (.c (.int .i64 0))⟩]

def f_lease_Harmed_r5 : List Abs.Op := [
  ⟨some 20, none, false, .bin .lss (.t 19) (.t 18)⟩]

def f_lease_Harmed_r6 : List Abs.Op := [
  ⟨some 21, none, false, .mv (.t 19)⟩,
  ⟨some 22, none, false, .idxS 3 (.t 17) (.t 19)⟩,
  ⟨some 23, none, false, .ld true 3 (.t 22)⟩,
  ⟨some 9, none, false, .alcv [] [(.int .i64 0), (.int .i64 0), .nils]⟩,
  ⟨some 8, none, false, .mv (.t 21)⟩,
  ⟨none, none, false, .stv 9 [] 3 9 (.t 23)⟩]

def f_lease_Harmed_r7 : List Abs.Op := [
  ⟨some 24, none, false, .ldv 9 true 3 9⟩,
  ⟨some 25, none, false, .mv (.t 1)⟩,
  ⟨some 26, none, false, .call false (.c (.fn i_lease_Spring_behind [] [])) [(.t 24), (.t 25)]⟩,
  ⟨some 10, none, false, .alcv [] [(.int .i64 0), (.int .i64 0)]⟩,
  ⟨none, none, false, .stv 10 [] 2 10 (.t 26)⟩]

def f_lease_Harmed_r8 : List Abs.Op := [
  ⟨some 27, none, false, .fadr 0 (.t 10)⟩,
  ⟨some 28, none, false, .ldv 10 false 1 27⟩,
  ⟨some 29, none, false, .fadr 1 (.t 9)⟩,
  ⟨some 30, none, false, .ldv 9 false 1 29⟩,
  ⟨some 31, none, false, .bin .mul (.c (.int .i64 1000)) (.t 30)⟩,
  ⟨some 32, none, false, .bin .lss (.t 28) (.t 31)⟩]

def f_lease_Harmed_r9 : List Abs.Op := [
  ⟨some 33, none, false, .mv (.t 4)⟩,
  ⟨some 34, none, false, .mv (.t 8)⟩,
  ⟨some 35, none, false, .bsi 1 1 [(.int .i64 0)] [(0, 1, (.t 34))]⟩,
  ⟨some 36, none, false, .app 1 8 (.t 33) (.t 35)⟩,
  ⟨some 4, none, false, .mv (.t 36)⟩]

def f_lease_Harmed_r10 : List Abs.Op := [
  ⟨some 37, none, false, .fadr 1 (.t 10)⟩,
  ⟨some 38, none, false, .ldv 10 false 1 37⟩,
  ⟨some 39, none, false, .fadr 1 (.t 9)⟩,
  ⟨some 40, none, false, .ldv 9 false 1 39⟩,
  ⟨some 41, none, false, .bin .mul (.c (.int .i64 1000)) (.t 40)⟩,
  ⟨some 42, none, false, .bin .lss (.t 38) (.t 41)⟩]

def f_lease_Harmed_r11 : List Abs.Op := [
  ⟨some 43, none, false, .mv (.t 5)⟩,
  ⟨some 44, none, false, .mv (.t 8)⟩,
  ⟨some 45, none, false, .bsi 1 1 [(.int .i64 0)] [(0, 1, (.t 44))]⟩,
  ⟨some 46, none, false, .app 1 8 (.t 43) (.t 45)⟩,
  ⟨some 5, none, false, .mv (.t 46)⟩]

def f_lease_Harmed_r12 : List Abs.Op := [
  ⟨some 47, none, false, .bin .add (.t 19) (.c (.int .i64 1))⟩,
  ⟨some 19, none, false, .mv (.t 47)⟩]

def f_lease_Harmed_l13 : Abs.Cmd :=
  (.seq (.reg [1, 4, 5, 17, 18, 19, 20] f_lease_Harmed_r5) (.seq (.ite (.t 20) .nop (.exit 0)) (.seq (.blk 1 (.seq (.reg [1, 4, 5, 8, 9, 17, 18, 19] f_lease_Harmed_r6) (.seq (.reg [1, 4, 5, 8, 9, 10, 17, 18, 19] f_lease_Harmed_r7) (.seq (.seq (.reg [1, 4, 5, 8, 9, 10, 17, 18, 19, 32] f_lease_Harmed_r8) (.ite (.t 32) (.reg [1, 4, 5, 8, 9, 10, 17, 18, 19] f_lease_Harmed_r9) .nop)) (.seq (.reg [1, 4, 5, 8, 17, 18, 19, 42] f_lease_Harmed_r10) (.ite (.t 42) (.reg [1, 4, 5, 17, 18, 19] f_lease_Harmed_r11) .nop)))))) (.reg [1, 4, 5, 17, 18, 19] f_lease_Harmed_r12))))

def f_lease_Harmed_r14 : List Abs.Op := [
  ⟨some 48, none, false, .mv (.t 4)⟩,
  ⟨some 49, none, false, .mv (.t 5)⟩,
  ⟨some 4, none, false, .mv (.t 48)⟩,
  ⟨some 5, none, false, .mv (.t 49)⟩,
  ⟨some 6, none, false, .mv (.c (.int .i64 0))⟩]

def a_lease_Harmed : Ann := ⟨[(13, [4, 5, 6]), (12, [1, 4, 5, 17, 18, 19]), (11, [1, 4, 5, 17, 18, 19]), (10, [1, 4, 5, 8, 17, 18, 19, 42]), (9, [1, 4, 5, 8, 9, 10, 17, 18, 19]), (8, [1, 4, 5, 8, 9, 10, 17, 18, 19, 32]), (7, [1, 4, 5, 8, 9, 10, 17, 18, 19]), (6, [1, 4, 5, 8, 9, 17, 18, 19]), (5, [1, 4, 5, 17, 18, 19, 20]), (4, [1, 4, 5, 17, 18, 19]), (3, [4, 5, 6]), (2, [0, 1, 4, 5, 7, 15]), (1, [0, 1, 4, 5, 7]), (0, [0, 1, 4, 5])], [(0, [1, 4, 5, 17, 18, 19])], [], [4, 5, 9, 10], [9, 10], [], [], [], [], []⟩
def f_lease_Harmed : Abs.Fn := ⟨2, [.t 4, .t 5, .t 6],
  (.seq (.reg [0, 1, 4, 5] f_lease_Harmed_r0) (.seq (.seq (.reg [0, 1, 4, 5, 7] f_lease_Harmed_r1) (.seq (.reg [0, 1, 4, 5, 7, 15] f_lease_Harmed_r2) (.ite (.t 15) (.seq (.reg [4, 5, 6] f_lease_Harmed_r3) .ret) .nop))) (.seq (.seq (.reg [1, 4, 5, 17, 18, 19] f_lease_Harmed_r4) (.blk 0 (.loop [1, 4, 5, 17, 18, 19] false f_lease_Harmed_l13))) (.seq (.reg [4, 5, 6] f_lease_Harmed_r14) .ret))))⟩

theorem e_lease_Harmed_r0 : type_of% f_lease_Harmed_r0.eq_1 := by_rfl f_lease_Harmed_r0.eq_1
theorem e_lease_Harmed_r1 : type_of% f_lease_Harmed_r1.eq_1 := by_rfl f_lease_Harmed_r1.eq_1
theorem e_lease_Harmed_r2 : type_of% f_lease_Harmed_r2.eq_1 := by_rfl f_lease_Harmed_r2.eq_1
theorem e_lease_Harmed_r3 : type_of% f_lease_Harmed_r3.eq_1 := by_rfl f_lease_Harmed_r3.eq_1
theorem e_lease_Harmed_r4 : type_of% f_lease_Harmed_r4.eq_1 := by_rfl f_lease_Harmed_r4.eq_1
theorem e_lease_Harmed_r5 : type_of% f_lease_Harmed_r5.eq_1 := by_rfl f_lease_Harmed_r5.eq_1
theorem e_lease_Harmed_r6 : type_of% f_lease_Harmed_r6.eq_1 := by_rfl f_lease_Harmed_r6.eq_1
theorem e_lease_Harmed_r7 : type_of% f_lease_Harmed_r7.eq_1 := by_rfl f_lease_Harmed_r7.eq_1
theorem e_lease_Harmed_r8 : type_of% f_lease_Harmed_r8.eq_1 := by_rfl f_lease_Harmed_r8.eq_1
theorem e_lease_Harmed_r9 : type_of% f_lease_Harmed_r9.eq_1 := by_rfl f_lease_Harmed_r9.eq_1
theorem e_lease_Harmed_r10 : type_of% f_lease_Harmed_r10.eq_1 := by_rfl f_lease_Harmed_r10.eq_1
theorem e_lease_Harmed_r11 : type_of% f_lease_Harmed_r11.eq_1 := by_rfl f_lease_Harmed_r11.eq_1
theorem e_lease_Harmed_r12 : type_of% f_lease_Harmed_r12.eq_1 := by_rfl f_lease_Harmed_r12.eq_1
theorem e_lease_Harmed_l13 : type_of% f_lease_Harmed_l13.eq_1 := by_rfl f_lease_Harmed_l13.eq_1
theorem e_lease_Harmed_r14 : type_of% f_lease_Harmed_r14.eq_1 := by_rfl f_lease_Harmed_r14.eq_1
theorem e_lease_Harmed : type_of% f_lease_Harmed.eq_1 := by_rfl f_lease_Harmed.eq_1
theorem ok_lease_Harmed : fnC Try.prog a_lease_Harmed Try.f30 = some f_lease_Harmed := by kernel_rfl

/-! 31 fumarole/fumarolelaw11.has -/
def f_law11_has_r0 : List Abs.Op := [
  ⟨some 4, none, false, .mv (.c (.bool false))⟩]

def f_law11_has_r1 : List Abs.Op := [
  ⟨some 5, none, false, .mv (.c (.int .i64 0))⟩]

def f_law11_has_r2 : List Abs.Op := [
  ⟨some 6, none, false, .mv (.t 5)⟩,
  ⟨some 7, none, false, .mv (.t 0)⟩,
  ⟨some 8, none, false, .lenS (.t 7)⟩,
  ⟨some 9, none, false, .bin .lss (.t 6) (.t 8)⟩]

def f_law11_has_r3 : List Abs.Op := [
  ⟨some 12, none, false, .mv (.t 0)⟩,
  ⟨some 13, none, false, .mv (.t 5)⟩,
  ⟨some 14, none, false, .idxS 1 (.t 12) (.t 13)⟩,
  ⟨some 15, none, false, .ld false 1 (.t 14)⟩,
  ⟨some 16, none, false, .mv (.t 1)⟩,
  ⟨some 17, none, false, .bin .eql (.t 15) (.t 16)⟩]

def f_law11_has_r4 : List Abs.Op := [
  ⟨some 4, none, false, .mv (.c (.bool true))⟩]

def f_law11_has_r5 : List Abs.Op := [
  ⟨some 10, none, false, .mv (.t 5)⟩,
  ⟨some 11, none, false, .bin .add (.t 10) (.c (.int .i64 1))⟩,
  ⟨some 5, none, false, .mv (.t 11)⟩]

def f_law11_has_l6 : Abs.Cmd :=
  (.seq (.seq (.reg [0, 1, 5, 9] f_law11_has_r2) (.ite (.t 9) .nop (.exit 0))) (.seq (.blk 1 (.seq (.reg [0, 1, 5, 17] f_law11_has_r3) (.ite (.t 17) (.seq (.reg [4] f_law11_has_r4) .ret) .nop))) (.reg [0, 1, 5] f_law11_has_r5)))

def f_law11_has_r7 : List Abs.Op := [
  ⟨some 4, none, false, .mv (.c (.bool false))⟩]

def a_law11_has : Ann := ⟨[(6, [4]), (3, [0, 1, 5]), (5, [4]), (4, [0, 1, 5, 17]), (2, [0, 1, 5, 9]), (1, [0, 1, 5]), (0, [0, 1])], [(0, [0, 1, 5])], [], [], [], [], [], [], [], []⟩
def f_law11_has : Abs.Fn := ⟨2, [.t 4],
  (.seq (.reg [0, 1] f_law11_has_r0) (.seq (.seq (.reg [0, 1, 5] f_law11_has_r1) (.blk 0 (.loop [0, 1, 5] false f_law11_has_l6))) (.seq (.reg [4] f_law11_has_r7) .ret)))⟩

theorem e_law11_has_r0 : type_of% f_law11_has_r0.eq_1 := by_rfl f_law11_has_r0.eq_1
theorem e_law11_has_r1 : type_of% f_law11_has_r1.eq_1 := by_rfl f_law11_has_r1.eq_1
theorem e_law11_has_r2 : type_of% f_law11_has_r2.eq_1 := by_rfl f_law11_has_r2.eq_1
theorem e_law11_has_r3 : type_of% f_law11_has_r3.eq_1 := by_rfl f_law11_has_r3.eq_1
theorem e_law11_has_r4 : type_of% f_law11_has_r4.eq_1 := by_rfl f_law11_has_r4.eq_1
theorem e_law11_has_r5 : type_of% f_law11_has_r5.eq_1 := by_rfl f_law11_has_r5.eq_1
theorem e_law11_has_l6 : type_of% f_law11_has_l6.eq_1 := by_rfl f_law11_has_l6.eq_1
theorem e_law11_has_r7 : type_of% f_law11_has_r7.eq_1 := by_rfl f_law11_has_r7.eq_1
theorem e_law11_has : type_of% f_law11_has.eq_1 := by_rfl f_law11_has.eq_1
theorem ok_law11_has : fnC Try.prog a_law11_has Try.f31 = some f_law11_has := by kernel_rfl

end Go.Proofs.Ytcccafphhmcifaa
