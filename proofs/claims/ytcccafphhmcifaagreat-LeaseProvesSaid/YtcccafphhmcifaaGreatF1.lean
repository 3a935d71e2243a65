/- The code of functions of the program, in the small instruction set; each is what the translation makes of it. -/
import Derived.Test.YtcccafphhmcifaaGreatIds
set_option linter.unusedVariables false
set_option maxRecDepth 100000
namespace Go.Proofs.YtcccafphhmcifaaGreat
open Go Go.Abs
/-! 47 fumarole/lease.Split -/
def f_lease_Split_r0 : List Abs.Op := [
  ⟨some 4, none, false, .mv (.c .nils)⟩,
  ⟨some 5, none, false, .mv (.c (.int .i64 0))⟩]

def f_lease_Split_r1 : List Abs.Op := [
  ⟨some 17, none, false, .mv (.t 0)⟩,
  ⟨some 18, none, false, .call false (.c (.fn i_lease_total [] [])) [(.t 17)]⟩,
  ⟨some 19, none, false, .un .not (.t 18)⟩]

def f_lease_Split_r2 : List Abs.Op := [
  ⟨some 4, none, false, .mv (.c .nils)⟩,
  ⟨some 5, none, false, .mv (.c (.int .i64 2))⟩]

def f_lease_Split_r3 : List Abs.Op := [
  ⟨some 6, none, false, .mv (.c (.int .i64 0))⟩]

def f_lease_Split_r4 : List Abs.Op := [
  ⟨some 20, none, false, .mv (.t 1)⟩,
  ⟨some 21, none, false, .lenS (.t 20)⟩,
  ⟨some 22, none, false, .call false (.c (.fn i_lease_within [] [])) [(.t 21), (.c (.int .i64 1)), (.c (.int .i64 8))]⟩,
  ⟨some 23, none, false, .un .not (.t 22)⟩,
  ⟨some 24, none, false, .mv (.t 23)⟩,
  ⟨some 25, some (24, false), false, .mv (.t 1)⟩,
  ⟨some 26, some (24, false), false, .call false (.c (.fn i_lease_all_int [] [])) [(.t 25), (.c (.fn i_lease_total [] []))]⟩,
  ⟨some 27, some (24, false), false, .un .not (.t 26)⟩,
  ⟨some 28, none, false, .pick (.t 24) (.c (.bool true)) (.t 27)⟩,
  ⟨some 29, none, false, .mv (.t 28)⟩,
  ⟨some 30, some (29, false), false, .mv (.t 1)⟩,
  ⟨some 31, some (29, false), false, .call false (.c (.fn i_lease_sum [] [])) [(.t 30)]⟩,
  ⟨some 32, some (29, false), false, .bin .eql (.t 31) (.c (.int .i64 0))⟩,
  ⟨some 33, none, false, .pick (.t 29) (.c (.bool true)) (.t 32)⟩]

def f_lease_Split_r5 : List Abs.Op := [
  ⟨some 4, none, false, .mv (.c .nils)⟩,
  ⟨some 5, none, false, .mv (.c (.int .i64 1))⟩]

def f_lease_Split_r6 : List Abs.Op := [
  ⟨some 34, none, false, .mv (.t 1)⟩,
  ⟨some 35, none, false, .call false (.c (.fn i_lease_sum [] [])) [(.t 34)]⟩,
  ⟨some 6, none, false, .mv (.t 35)⟩]

def f_lease_Split_r7 : List Abs.Op := [
  ⟨some 7, none, false, .nilb 2⟩]

def f_lease_Split_r8 : List Abs.Op := [
  ⟨some 36, none, false, .mv (.t 0)⟩,
  ⟨some 8, none, false, .mv (.t 36)⟩]

def f_lease_Split_r9 : List Abs.Op := [
  ⟨some 37, none, false, .mv (.t 1)⟩,
  ⟨some 38, none, false, .lenS (.t 37)⟩,
  ⟨some 39, none, false, .mv (.c (.int .i64 0))⟩]

def f_lease_Split_r10 : List Abs.Op := [
  ⟨some 40, none, false, .bin .lss (.t 39) (.t 38)⟩]

def f_lease_Split_r11 : List Abs.Op := [
  ⟨some 41, none, false, .idxS 1 (.t 37) (.t 39)⟩,
  ⟨some 42, none, false, .ld false 1 (.t 41)⟩,
  ⟨some 10, none, false, .mv (.t 42)⟩]

def f_lease_Split_r12 : List Abs.Op := [
  ⟨some 43, none, false, .mv (.t 0)⟩,
  ⟨some 44, none, false, .mv (.t 10)⟩,
  ⟨some 45, none, false, .mv (.t 6)⟩,
  ⟨some 46, none, false, .call false (.c (.fn i_lease_part [] [])) [(.t 43), (.t 44), (.t 45)]⟩,
  ⟨some 11, none, false, .alcv [] [(.int .i64 0), (.int .i64 0)]⟩,
  ⟨none, none, false, .stv 11 [] 2 11 (.t 46)⟩]

def f_lease_Split_r13 : List Abs.Op := [
  ⟨some 47, none, true, .mv (.t 7)⟩,
  ⟨some 48, none, true, .ldv 11 true 2 11⟩,
  ⟨some 49, none, true, .bsi 1 2 [(.int .i64 0), (.int .i64 0)] [(0, 2, (.t 48))]⟩,
  ⟨some 50, none, true, .app 2 16 (.t 47) (.t 49)⟩,
  ⟨some 51, none, true, .mv (.t 8)⟩,
  ⟨some 52, none, true, .fadr 0 (.t 11)⟩,
  ⟨some 53, none, true, .ldv 11 false 1 52⟩,
  ⟨some 54, none, true, .bin .sub (.t 51) (.t 53)⟩,
  ⟨some 7, none, true, .mv (.t 50)⟩,
  ⟨some 8, none, false, .mv (.t 54)⟩]

def f_lease_Split_r14 : List Abs.Op := [
  ⟨some 55, none, false, .bin .add (.t 39) (.c (.int .i64 1))⟩,
  ⟨some 39, none, false, .mv (.t 55)⟩]

def f_lease_Split_l15 : Abs.Cmd :=
  (.seq (.reg [0, 1, 6, 7, 8, 37, 38, 39, 40] f_lease_Split_r10) (.seq (.ite (.t 40) .nop (.exit 0)) (.seq (.blk 1 (.seq (.reg [0, 1, 6, 7, 8, 10, 37, 38, 39] f_lease_Split_r11) (.seq (.reg [0, 1, 6, 7, 8, 11, 37, 38, 39] f_lease_Split_r12) (.reg [0, 1, 6, 7, 8, 37, 38, 39] f_lease_Split_r13)))) (.reg [0, 1, 6, 7, 8, 37, 38, 39] f_lease_Split_r14))))

def f_lease_Split_r16 : List Abs.Op := [
  ⟨some 56, none, false, .mv (.t 1)⟩,
  ⟨some 57, none, false, .lenS (.t 56)⟩,
  ⟨some 58, none, false, .mks 1 8 [(.int .i64 0)] (.t 57) (.t 57)⟩,
  ⟨some 12, none, false, .mv (.t 58)⟩]

def f_lease_Split_r17 : List Abs.Op := [
  ⟨some 59, none, false, .mv (.t 7)⟩,
  ⟨some 60, none, false, .lenS (.t 59)⟩,
  ⟨some 61, none, false, .mv (.c (.int .i64 0))⟩]

def f_lease_Split_r18 : List Abs.Op := [
  ⟨some 62, none, false, .bin .lss (.t 61) (.t 60)⟩]

def f_lease_Split_r19 : List Abs.Op := [
  ⟨some 63, none, false, .mv (.t 61)⟩,
  ⟨some 64, none, false, .idxS 2 (.t 59) (.t 61)⟩,
  ⟨some 65, none, false, .ld true 2 (.t 64)⟩,
  ⟨some 14, none, false, .alcv [] [(.int .i64 0), (.int .i64 0)]⟩,
  ⟨some 13, none, false, .mv (.t 63)⟩,
  ⟨none, none, false, .stv 14 [] 2 14 (.t 65)⟩]

def f_lease_Split_r20 : List Abs.Op := [
  ⟨some 66, none, false, .mv (.t 12)⟩,
  ⟨some 67, none, false, .mv (.t 13)⟩,
  ⟨some 68, none, false, .fadr 0 (.t 14)⟩,
  ⟨some 69, none, false, .ldv 14 false 1 68⟩,
  ⟨some 70, none, false, .idxS 1 (.t 66) (.t 67)⟩,
  ⟨none, none, false, .st [] 1 (.t 70) (.t 69)⟩]

def f_lease_Split_r21 : List Abs.Op := [
  ⟨some 71, none, false, .bin .add (.t 61) (.c (.int .i64 1))⟩,
  ⟨some 61, none, false, .mv (.t 71)⟩]

def f_lease_Split_l22 : Abs.Cmd :=
  (.seq (.reg [7, 8, 12, 59, 60, 61, 62] f_lease_Split_r18) (.seq (.ite (.t 62) .nop (.exit 2)) (.seq (.blk 3 (.seq (.reg [7, 8, 12, 13, 14, 59, 60, 61] f_lease_Split_r19) (.reg [7, 8, 12, 59, 60, 61] f_lease_Split_r20))) (.reg [7, 8, 12, 59, 60, 61] f_lease_Split_r21))))

def f_lease_Split_r23 : List Abs.Op := [
  ⟨some 72, none, false, .mv (.t 7)⟩,
  ⟨some 73, none, false, .call false (.c (.fn i_lease_ranked_lease_portion [] [])) [(.t 72), (.c (.fn i_lease_Split_1 [] []))]⟩,
  ⟨some 74, none, false, .mv (.t 8)⟩,
  ⟨some 75, none, false, .slc 1 (.t 73) none (some (.t 74)) none⟩,
  ⟨some 76, none, false, .lenS (.t 75)⟩,
  ⟨some 77, none, false, .mv (.c (.int .i64 0))⟩]

def f_lease_Split_r24 : List Abs.Op := [
  ⟨some 78, none, false, .bin .lss (.t 77) (.t 76)⟩]

def f_lease_Split_r25 : List Abs.Op := [
  ⟨some 79, none, false, .idxS 1 (.t 75) (.t 77)⟩,
  ⟨some 80, none, false, .ld false 1 (.t 79)⟩,
  ⟨some 16, none, false, .mv (.t 80)⟩]

def f_lease_Split_r26 : List Abs.Op := [
  ⟨some 81, none, false, .mv (.t 12)⟩,
  ⟨some 82, none, false, .mv (.t 16)⟩,
  ⟨some 83, none, false, .idxS 1 (.t 81) (.t 82)⟩,
  ⟨some 84, none, false, .ld false 1 (.t 83)⟩,
  ⟨some 85, none, false, .bin .add (.t 84) (.c (.int .i64 1))⟩,
  ⟨some 86, none, false, .idxS 1 (.t 81) (.t 82)⟩,
  ⟨none, none, false, .st [] 1 (.t 86) (.t 85)⟩]

def f_lease_Split_r27 : List Abs.Op := [
  ⟨some 87, none, false, .bin .add (.t 77) (.c (.int .i64 1))⟩,
  ⟨some 77, none, false, .mv (.t 87)⟩]

def f_lease_Split_l28 : Abs.Cmd :=
  (.seq (.reg [12, 75, 76, 77, 78] f_lease_Split_r24) (.seq (.ite (.t 78) .nop (.exit 4)) (.seq (.blk 5 (.seq (.reg [12, 16, 75, 76, 77] f_lease_Split_r25) (.reg [12, 75, 76, 77] f_lease_Split_r26))) (.reg [12, 75, 76, 77] f_lease_Split_r27))))

def f_lease_Split_r29 : List Abs.Op := [
  ⟨some 88, none, false, .mv (.t 12)⟩,
  ⟨some 4, none, false, .mv (.t 88)⟩,
  ⟨some 5, none, false, .mv (.c (.int .i64 0))⟩]

def a_lease_Split : Ann := ⟨[(26, [4, 5]), (25, [12, 75, 76, 77]), (24, [12, 75, 76, 77]), (23, [12, 16, 75, 76, 77]), (22, [12, 75, 76, 77, 78]), (21, [12, 75, 76, 77]), (20, [7, 8, 12, 59, 60, 61]), (19, [7, 8, 12, 59, 60, 61]), (18, [7, 8, 12, 13, 14, 59, 60, 61]), (17, [7, 8, 12, 59, 60, 61, 62]), (16, [7, 8, 12, 59, 60, 61]), (15, [7, 8, 12]), (14, [0, 1, 6, 7, 8, 37, 38, 39]), (13, [0, 1, 6, 7, 8, 37, 38, 39]), (12, [0, 1, 6, 7, 8, 11, 37, 38, 39]), (11, [0, 1, 6, 7, 8, 10, 37, 38, 39]), (10, [0, 1, 6, 7, 8, 37, 38, 39, 40]), (9, [0, 1, 6, 7, 8, 37, 38, 39]), (8, [0, 1, 6, 7, 8]), (7, [0, 1, 6, 7]), (6, [0, 1, 6]), (5, [4, 5]), (4, [0, 1, 33]), (3, [0, 1]), (2, [4, 5]), (1, [0, 1, 19]), (0, [0, 1])], [(4, [12, 75, 76, 77]), (2, [7, 8, 12, 59, 60, 61]), (0, [0, 1, 6, 7, 8, 37, 38, 39])], [], [7, 11, 14], [11, 14], [], [], [(15, [7])], [], []⟩
def f_lease_Split : Abs.Fn := ⟨2, [.t 4, .t 5],
  (.seq (.reg [0, 1] f_lease_Split_r0) (.seq (.seq (.reg [0, 1, 19] f_lease_Split_r1) (.ite (.t 19) (.seq (.reg [4, 5] f_lease_Split_r2) .ret) .nop)) (.seq (.reg [0, 1] f_lease_Split_r3) (.seq (.seq (.reg [0, 1, 33] f_lease_Split_r4) (.ite (.t 33) (.seq (.reg [4, 5] f_lease_Split_r5) .ret) .nop)) (.seq (.reg [0, 1, 6] f_lease_Split_r6) (.seq (.reg [0, 1, 6, 7] f_lease_Split_r7) (.seq (.reg [0, 1, 6, 7, 8] f_lease_Split_r8) (.seq (.seq (.reg [0, 1, 6, 7, 8, 37, 38, 39] f_lease_Split_r9) (.blk 0 (.loop [0, 1, 6, 7, 8, 37, 38, 39] false f_lease_Split_l15))) (.seq (.seq (.frz [7]) (.reg [7, 8, 12] f_lease_Split_r16)) (.seq (.seq (.reg [7, 8, 12, 59, 60, 61] f_lease_Split_r17) (.blk 2 (.loop [7, 8, 12, 59, 60, 61] false f_lease_Split_l22))) (.seq (.seq (.reg [12, 75, 76, 77] f_lease_Split_r23) (.blk 4 (.loop [12, 75, 76, 77] false f_lease_Split_l28))) (.seq (.reg [4, 5] f_lease_Split_r29) .ret))))))))))))⟩

theorem e_lease_Split_r0 : type_of% f_lease_Split_r0.eq_1 := by_rfl f_lease_Split_r0.eq_1
theorem e_lease_Split_r1 : type_of% f_lease_Split_r1.eq_1 := by_rfl f_lease_Split_r1.eq_1
theorem e_lease_Split_r2 : type_of% f_lease_Split_r2.eq_1 := by_rfl f_lease_Split_r2.eq_1
theorem e_lease_Split_r3 : type_of% f_lease_Split_r3.eq_1 := by_rfl f_lease_Split_r3.eq_1
theorem e_lease_Split_r4 : type_of% f_lease_Split_r4.eq_1 := by_rfl f_lease_Split_r4.eq_1
theorem e_lease_Split_r5 : type_of% f_lease_Split_r5.eq_1 := by_rfl f_lease_Split_r5.eq_1
theorem e_lease_Split_r6 : type_of% f_lease_Split_r6.eq_1 := by_rfl f_lease_Split_r6.eq_1
theorem e_lease_Split_r7 : type_of% f_lease_Split_r7.eq_1 := by_rfl f_lease_Split_r7.eq_1
theorem e_lease_Split_r8 : type_of% f_lease_Split_r8.eq_1 := by_rfl f_lease_Split_r8.eq_1
theorem e_lease_Split_r9 : type_of% f_lease_Split_r9.eq_1 := by_rfl f_lease_Split_r9.eq_1
theorem e_lease_Split_r10 : type_of% f_lease_Split_r10.eq_1 := by_rfl f_lease_Split_r10.eq_1
theorem e_lease_Split_r11 : type_of% f_lease_Split_r11.eq_1 := by_rfl f_lease_Split_r11.eq_1
theorem e_lease_Split_r12 : type_of% f_lease_Split_r12.eq_1 := by_rfl f_lease_Split_r12.eq_1
theorem e_lease_Split_r13 : type_of% f_lease_Split_r13.eq_1 := by_rfl f_lease_Split_r13.eq_1
theorem e_lease_Split_r14 : type_of% f_lease_Split_r14.eq_1 := by_rfl f_lease_Split_r14.eq_1
theorem e_lease_Split_l15 : type_of% f_lease_Split_l15.eq_1 := by_rfl f_lease_Split_l15.eq_1
theorem e_lease_Split_r16 : type_of% f_lease_Split_r16.eq_1 := by_rfl f_lease_Split_r16.eq_1
theorem e_lease_Split_r17 : type_of% f_lease_Split_r17.eq_1 := by_rfl f_lease_Split_r17.eq_1
theorem e_lease_Split_r18 : type_of% f_lease_Split_r18.eq_1 := by_rfl f_lease_Split_r18.eq_1
theorem e_lease_Split_r19 : type_of% f_lease_Split_r19.eq_1 := by_rfl f_lease_Split_r19.eq_1
theorem e_lease_Split_r20 : type_of% f_lease_Split_r20.eq_1 := by_rfl f_lease_Split_r20.eq_1
theorem e_lease_Split_r21 : type_of% f_lease_Split_r21.eq_1 := by_rfl f_lease_Split_r21.eq_1
theorem e_lease_Split_l22 : type_of% f_lease_Split_l22.eq_1 := by_rfl f_lease_Split_l22.eq_1
theorem e_lease_Split_r23 : type_of% f_lease_Split_r23.eq_1 := by_rfl f_lease_Split_r23.eq_1
theorem e_lease_Split_r24 : type_of% f_lease_Split_r24.eq_1 := by_rfl f_lease_Split_r24.eq_1
theorem e_lease_Split_r25 : type_of% f_lease_Split_r25.eq_1 := by_rfl f_lease_Split_r25.eq_1
theorem e_lease_Split_r26 : type_of% f_lease_Split_r26.eq_1 := by_rfl f_lease_Split_r26.eq_1
theorem e_lease_Split_r27 : type_of% f_lease_Split_r27.eq_1 := by_rfl f_lease_Split_r27.eq_1
theorem e_lease_Split_l28 : type_of% f_lease_Split_l28.eq_1 := by_rfl f_lease_Split_l28.eq_1
theorem e_lease_Split_r29 : type_of% f_lease_Split_r29.eq_1 := by_rfl f_lease_Split_r29.eq_1
theorem e_lease_Split : type_of% f_lease_Split.eq_1 := by_rfl f_lease_Split.eq_1
theorem ok_lease_Split : fnC Tryz.prog a_lease_Split Tryz.f47 = some f_lease_Split := by kernel_rfl

/-! 49 fumarole/fumarolelaw11.pool -/
def f_law11_pool_r0 : List Abs.Op := [
  ⟨some 0, none, false, .mv (.c .nils)⟩]

def f_law11_pool_r1 : List Abs.Op := [
  ⟨some 1, none, false, .bld [(.int .i64 0), (.int .i64 0)] [(0, 1, (.c (.int .i64 100))), (1, 1, (.c (.int .i64 200)))]⟩,
  ⟨some 2, none, false, .bld [(.int .i64 0), (.int .i64 0)] [(1, 1, (.c (.int .i64 50)))]⟩,
  ⟨some 3, none, false, .bsi 2 2 [(.int .i64 0), (.int .i64 0), (.int .i64 0), (.int .i64 0)] [(0, 2, (.t 1)), (2, 2, (.t 2))]⟩,
  ⟨some 4, none, false, .bld [(.int .i64 0), (.int .i64 0), .nils] [(0, 1, (.c (.int .i64 10))), (1, 1, (.c (.int .i64 8))), (2, 1, (.t 3))]⟩,
  ⟨some 5, none, false, .bsi 1 3 [(.int .i64 0), (.int .i64 0), .nils] [(0, 3, (.t 4))]⟩,
  ⟨some 0, none, false, .mv (.t 5)⟩]

def a_law11_pool : Ann := ⟨[(1, [0]), (0, [])], [], [], [], [], [], [], [], [], []⟩
def f_law11_pool : Abs.Fn := ⟨0, [.t 0],
  (.seq (.reg [] f_law11_pool_r0) (.seq (.reg [0] f_law11_pool_r1) .ret))⟩

theorem e_law11_pool_r0 : type_of% f_law11_pool_r0.eq_1 := by_rfl f_law11_pool_r0.eq_1
theorem e_law11_pool_r1 : type_of% f_law11_pool_r1.eq_1 := by_rfl f_law11_pool_r1.eq_1
theorem e_law11_pool : type_of% f_law11_pool.eq_1 := by_rfl f_law11_pool.eq_1
theorem ok_law11_pool : fnC Tryz.prog a_law11_pool Tryz.f49 = some f_law11_pool := by kernel_rfl

/-! 50 fumarole/fumarolelaw11.drilled -/
def f_law11_drilled_r0 : List Abs.Op := [
  ⟨some 0, none, false, .alcv [] [(.int .i64 0), (.int .i64 0), (.int .i64 0), (.int .i64 0), .nils]⟩]

def f_law11_drilled_r1 : List Abs.Op := [
  ⟨some 1, none, false, .bld [(.int .i64 0), (.int .i64 0)] [(0, 1, (.c (.int .i64 12))), (1, 1, (.c (.int .i64 5)))]⟩,
  ⟨some 2, none, false, .bld [(.int .i64 0), (.int .i64 0)] [(0, 1, (.c (.int .i64 14))), (1, 1, (.c (.int .i64 4)))]⟩,
  ⟨some 3, none, false, .bld [(.int .i64 0), (.int .i64 0)] [(0, 1, (.c (.int .i64 15))), (1, 1, (.c (.int .i64 9)))]⟩,
  ⟨some 4, none, false, .bsi 3 2 [(.int .i64 0), (.int .i64 0), (.int .i64 0), (.int .i64 0), (.int .i64 0), (.int .i64 0)] [(0, 2, (.t 1)), (2, 2, (.t 2)), (4, 2, (.t 3))]⟩,
  ⟨some 5, none, false, .bld [(.int .i64 0), (.int .i64 0), (.int .i64 0), (.int .i64 0), .nils] [(0, 1, (.c (.int .i64 10))), (1, 1, (.c (.int .i64 6))), (2, 1, (.c (.int .i64 900))), (3, 1, (.c (.int .i64 2))), (4, 1, (.t 4))]⟩,
  ⟨none, none, false, .stv 0 [] 5 0 (.t 5)⟩]

def a_law11_drilled : Ann := ⟨[(1, [0]), (0, [0])], [], [], [0], [0], [], [], [], [], []⟩
def f_law11_drilled : Abs.Fn := ⟨0, [.v 0 true 5],
  (.seq (.reg [0] f_law11_drilled_r0) (.seq (.reg [0] f_law11_drilled_r1) .ret))⟩

theorem e_law11_drilled_r0 : type_of% f_law11_drilled_r0.eq_1 := by_rfl f_law11_drilled_r0.eq_1
theorem e_law11_drilled_r1 : type_of% f_law11_drilled_r1.eq_1 := by_rfl f_law11_drilled_r1.eq_1
theorem e_law11_drilled : type_of% f_law11_drilled.eq_1 := by_rfl f_law11_drilled.eq_1
theorem ok_law11_drilled : fnC Tryz.prog a_law11_drilled Tryz.f50 = some f_law11_drilled := by kernel_rfl

/-! 52 fumarole/fumaroleref11.In -/
def f_ref11_In_r0 : List Abs.Op := [
  ⟨some 6, none, false, .mv (.c (.bool false))⟩]

def f_ref11_In_r1 : List Abs.Op := [
  ⟨some 7, none, false, .mv (.t 0)⟩,
  ⟨some 8, none, false, .mv (.t 1)⟩,
  ⟨some 9, none, false, .bin .geq (.t 7) (.t 8)⟩,
  ⟨some 10, none, false, .mv (.t 9)⟩,
  ⟨some 11, some (10, true), false, .mv (.t 0)⟩,
  ⟨some 12, some (10, true), false, .mv (.t 2)⟩,
  ⟨some 13, some (10, true), false, .bin .leq (.t 11) (.t 12)⟩,
  ⟨some 14, none, false, .pick (.t 10) (.t 13) (.c (.bool false))⟩,
  ⟨some 6, none, false, .mv (.t 14)⟩]

def a_ref11_In : Ann := ⟨[(1, [6]), (0, [0, 1, 2])], [], [], [], [], [], [], [], [], []⟩
def f_ref11_In : Abs.Fn := ⟨3, [.t 6],
  (.seq (.reg [0, 1, 2] f_ref11_In_r0) (.seq (.reg [6] f_ref11_In_r1) .ret))⟩

theorem e_ref11_In_r0 : type_of% f_ref11_In_r0.eq_1 := by_rfl f_ref11_In_r0.eq_1
theorem e_ref11_In_r1 : type_of% f_ref11_In_r1.eq_1 := by_rfl f_ref11_In_r1.eq_1
theorem e_ref11_In : type_of% f_ref11_In.eq_1 := by_rfl f_ref11_In.eq_1
theorem ok_ref11_In : fnC Tryz.prog a_ref11_In Tryz.f52 = some f_ref11_In := by kernel_rfl

/-! 53 (fumarole/lease.Programme).valid -/
def f_lease_Programme_valid_r0 : List Abs.Op := [
  ⟨some 1, none, false, .boxi (.t 0)⟩,
  ⟨some 2, none, false, .mv (.c (.bool false))⟩]

def f_lease_Programme_valid_r1 : List Abs.Op := [
  ⟨some 3, none, false, .fadr 0 (.t 1)⟩,
  ⟨some 4, none, false, .ld false 1 (.t 3)⟩,
  ⟨some 5, none, false, .call false (.c (.fn i_lease_within [] [])) [(.t 4), (.c (.int .i64 0)), (.c (.int .i64 1000000))]⟩,
  ⟨some 6, none, false, .mv (.t 5)⟩,
  ⟨some 7, some (6, true), false, .fadr 1 (.t 1)⟩,
  ⟨some 8, some (6, true), false, .ld false 1 (.t 7)⟩,
  ⟨some 9, some (6, true), false, .call false (.c (.fn i_lease_within [] [])) [(.t 8), (.c (.int .i64 1)), (.c (.int .i64 1000000))]⟩,
  ⟨some 10, none, false, .pick (.t 6) (.t 9) (.c (.bool false))⟩,
  ⟨some 11, none, false, .mv (.t 10)⟩,
  ⟨some 12, some (11, true), false, .fadr 2 (.t 1)⟩,
  ⟨some 13, some (11, true), false, .ld false 1 (.t 12)⟩,
  ⟨some 14, some (11, true), false, .call false (.c (.fn i_lease_within [] [])) [(.t 13), (.c (.int .i64 0)), (.c (.int .i64 1000))]⟩,
  ⟨some 15, none, false, .pick (.t 11) (.t 14) (.c (.bool false))⟩,
  ⟨some 16, none, false, .mv (.t 15)⟩,
  ⟨some 17, some (16, true), false, .fadr 3 (.t 1)⟩,
  ⟨some 18, some (16, true), false, .ld false 1 (.t 17)⟩,
  ⟨some 19, some (16, true), false, .call false (.c (.fn i_lease_within [] [])) [(.t 18), (.c (.int .i64 0)), (.c (.int .i64 3))]⟩,
  ⟨some 20, none, false, .pick (.t 16) (.t 19) (.c (.bool false))⟩,
  ⟨some 21, none, false, .mv (.t 20)⟩,
  ⟨some 22, some (21, true), false, .fadr 4 (.t 1)⟩,
  ⟨some 23, some (21, true), false, .ld false 1 (.t 22)⟩,
  ⟨some 24, some (21, true), false, .lenS (.t 23)⟩,
  ⟨some 25, some (21, true), false, .call false (.c (.fn i_lease_within [] [])) [(.t 24), (.c (.int .i64 1)), (.c (.int .i64 8))]⟩,
  ⟨some 26, none, false, .pick (.t 21) (.t 25) (.c (.bool false))⟩,
  ⟨some 27, none, false, .mv (.t 26)⟩,
  ⟨some 28, some (27, true), false, .fadr 4 (.t 1)⟩,
  ⟨some 29, some (27, true), false, .ld false 1 (.t 28)⟩,
  ⟨some 30, some (27, true), false, .call false (.c (.fn i_lease_all_lease_Year [] [])) [(.t 29), (.c (.fn i_lease_Programme_valid_1 [] []))]⟩,
  ⟨some 31, none, false, .pick (.t 27) (.t 30) (.c (.bool false))⟩,
  ⟨some 2, none, false, .mv (.t 31)⟩]

def a_lease_Programme_valid : Ann := ⟨[(1, [2]), (0, [1])], [], [], [], [], [], [], [], [], []⟩
def f_lease_Programme_valid : Abs.Fn := ⟨1, [.t 2],
  (.seq (.reg [1] f_lease_Programme_valid_r0) (.seq (.reg [2] f_lease_Programme_valid_r1) .ret))⟩

theorem e_lease_Programme_valid_r0 : type_of% f_lease_Programme_valid_r0.eq_1 := by_rfl f_lease_Programme_valid_r0.eq_1
theorem e_lease_Programme_valid_r1 : type_of% f_lease_Programme_valid_r1.eq_1 := by_rfl f_lease_Programme_valid_r1.eq_1
theorem e_lease_Programme_valid : type_of% f_lease_Programme_valid.eq_1 := by_rfl f_lease_Programme_valid.eq_1
theorem ok_lease_Programme_valid : fnC Tryz.prog a_lease_Programme_valid Tryz.f53 = some f_lease_Programme_valid := by kernel_rfl

/-! 54 (fumarole/lease.work).table -/
def f_lease_work_table_r0 : List Abs.Op := [
  ⟨some 1, none, false, .boxi (.t 0)⟩,
  ⟨some 2, none, false, .mv (.c .nils)⟩]

def f_lease_work_table_r1 : List Abs.Op := [
  ⟨some 6, none, false, .fadr 0 (.t 1)⟩,
  ⟨some 7, none, false, .fadr 4 (.t 6)⟩,
  ⟨some 8, none, false, .ld false 1 (.t 7)⟩,
  ⟨some 9, none, false, .lenS (.t 8)⟩,
  ⟨some 10, none, false, .mks 1 24 [.nils] (.t 9) (.t 9)⟩,
  ⟨some 3, none, false, .alc [] [.nils]⟩,
  ⟨none, none, false, .st [] 1 (.t 3) (.t 10)⟩]

def f_lease_work_table_r2 : List Abs.Op := [
  ⟨some 11, none, false, .ld true 5 (.t 1)⟩,
  ⟨some 12, none, false, .call false (.c (.fn i_lease_work_ladders [] [])) [(.t 11)]⟩]

def f_lease_work_table_r3 : List Abs.Op := [
  ⟨some 4, none, false, .mv (.t 13)⟩]

def f_lease_work_table_r4 : List Abs.Op := [
  ⟨some 5, none, false, .mv (.t 14)⟩]

def f_lease_work_table_r5 : List Abs.Op := [
  ⟨some 15, none, false, .ld false 1 (.t 3)⟩,
  ⟨some 16, none, false, .mv (.t 4)⟩,
  ⟨some 17, none, false, .mv (.t 5)⟩,
  ⟨some 18, none, false, .idxS 1 (.t 15) (.t 16)⟩,
  ⟨none, none, false, .st [] 1 (.t 18) (.t 17)⟩]

def f_lease_work_table_a6 : Abs.Cmd :=
  (.seq (.reg [3, 4, 14] f_lease_work_table_r3) (.reg [3, 4, 5] f_lease_work_table_r4))

def f_lease_work_table_b6 : Abs.Cmd :=
  (.blk 1 (.reg [] f_lease_work_table_r5))

def f_lease_work_table_r7 : List Abs.Op := [
  ⟨some 19, none, false, .ld false 1 (.t 3)⟩,
  ⟨some 2, none, false, .mv (.t 19)⟩]

def a_lease_work_table : Ann := ⟨[(6, [2]), (5, []), (4, [3, 4, 5]), (3, [3, 4, 14]), (2, [2, 3, 12]), (1, [1, 2, 3]), (0, [1, 2])], [(0, [2, 3])], [], [3], [], [], [], [], [], []⟩
def f_lease_work_table : Abs.Fn := ⟨1, [.t 2],
  (.seq (.reg [1, 2] f_lease_work_table_r0) (.seq (.reg [1, 2, 3] f_lease_work_table_r1) (.seq (.seq (.reg [2, 3, 12] f_lease_work_table_r2) (.blk 0 (.rngf [2, 3] (.t 12) [13, 14] f_lease_work_table_a6 f_lease_work_table_b6))) (.seq (.reg [2] f_lease_work_table_r7) .ret))))⟩

theorem e_lease_work_table_r0 : type_of% f_lease_work_table_r0.eq_1 := by_rfl f_lease_work_table_r0.eq_1
theorem e_lease_work_table_r1 : type_of% f_lease_work_table_r1.eq_1 := by_rfl f_lease_work_table_r1.eq_1
theorem e_lease_work_table_r2 : type_of% f_lease_work_table_r2.eq_1 := by_rfl f_lease_work_table_r2.eq_1
theorem e_lease_work_table_r3 : type_of% f_lease_work_table_r3.eq_1 := by_rfl f_lease_work_table_r3.eq_1
theorem e_lease_work_table_r4 : type_of% f_lease_work_table_r4.eq_1 := by_rfl f_lease_work_table_r4.eq_1
theorem e_lease_work_table_r5 : type_of% f_lease_work_table_r5.eq_1 := by_rfl f_lease_work_table_r5.eq_1
theorem e_lease_work_table_a6 : type_of% f_lease_work_table_a6.eq_1 := by_rfl f_lease_work_table_a6.eq_1
theorem e_lease_work_table_b6 : type_of% f_lease_work_table_b6.eq_1 := by_rfl f_lease_work_table_b6.eq_1
theorem e_lease_work_table_r7 : type_of% f_lease_work_table_r7.eq_1 := by_rfl f_lease_work_table_r7.eq_1
theorem e_lease_work_table : type_of% f_lease_work_table.eq_1 := by_rfl f_lease_work_table.eq_1
theorem ok_lease_work_table : fnC Tryz.prog a_lease_work_table Tryz.f54 = some f_lease_work_table := by kernel_rfl

/-! 55 (fumarole/lease.ladder).at -/
def f_lease_ladder_at_r0 : List Abs.Op := [
  ⟨some 4, none, false, .mv (.c (.int .i64 0))⟩]

def f_lease_ladder_at_r1 : List Abs.Op := [
  ⟨some 7, none, false, .mv (.t 1)⟩,
  ⟨some 8, none, false, .mn (.t 7) (.c (.int .i64 100000000))⟩,
  ⟨some 1, none, false, .mv (.t 8)⟩]

def f_lease_ladder_at_r2 : List Abs.Op := [
  ⟨some 10, none, false, .mv (.t 0)⟩,
  ⟨some 11, none, false, .mv (.t 1)⟩,
  ⟨some 12, none, false, .call false (.c (.fn i_slices_BinarySearchFunc_lease_ladder_lease_Rung_int [] [])) [(.t 10), (.t 11), (.c (.fn i_lease_ladder_at_1 [] []))]⟩,
  ⟨some 9, none, false, .mv (.t 12)⟩,
  ⟨some 13, none, false, .ext (.t 9) 0⟩,
  ⟨some 14, none, false, .ext (.t 9) 1⟩,
  ⟨some 5, none, false, .mv (.t 13)⟩,
  ⟨some 6, none, false, .mv (.t 14)⟩]

def f_lease_ladder_at_r3 : List Abs.Op := [
  ⟨some 15, none, false, .mv (.t 0)⟩,
  ⟨some 16, none, false, .mv (.t 5)⟩,
  ⟨some 17, none, false, .idxS 2 (.t 15) (.t 16)⟩,
  ⟨some 18, none, false, .fadr 1 (.t 17)⟩,
  ⟨some 19, none, false, .ld false 1 (.t 18)⟩,
  ⟨some 4, none, false, .mv (.t 19)⟩]

def a_lease_ladder_at : Ann := ⟨[(3, [4]), (2, [0, 5]), (1, [0, 1]), (0, [0, 1])], [], [], [], [], [], [], [], [], []⟩
def f_lease_ladder_at : Abs.Fn := ⟨2, [.t 4],
  (.seq (.reg [0, 1] f_lease_ladder_at_r0) (.seq (.reg [0, 1] f_lease_ladder_at_r1) (.seq (.reg [0, 5] f_lease_ladder_at_r2) (.seq (.reg [4] f_lease_ladder_at_r3) .ret))))⟩

theorem e_lease_ladder_at_r0 : type_of% f_lease_ladder_at_r0.eq_1 := by_rfl f_lease_ladder_at_r0.eq_1
theorem e_lease_ladder_at_r1 : type_of% f_lease_ladder_at_r1.eq_1 := by_rfl f_lease_ladder_at_r1.eq_1
theorem e_lease_ladder_at_r2 : type_of% f_lease_ladder_at_r2.eq_1 := by_rfl f_lease_ladder_at_r2.eq_1
theorem e_lease_ladder_at_r3 : type_of% f_lease_ladder_at_r3.eq_1 := by_rfl f_lease_ladder_at_r3.eq_1
theorem e_lease_ladder_at : type_of% f_lease_ladder_at.eq_1 := by_rfl f_lease_ladder_at.eq_1
theorem ok_lease_ladder_at : fnC Tryz.prog a_lease_ladder_at Tryz.f55 = some f_lease_ladder_at := by kernel_rfl

/-! 56 (fumarole/lease.Programme).meets -/
def f_lease_Programme_meets_r0 : List Abs.Op := [
  ⟨some 4, none, false, .boxi (.t 0)⟩,
  ⟨some 8, none, false, .mv (.c (.bool false))⟩]

def f_lease_Programme_meets_r1 : List Abs.Op := [
  ⟨some 9, none, true, .mv (.t 2)⟩,
  ⟨some 10, none, true, .mv (.t 3)⟩,
  ⟨some 11, none, true, .fadr 1 (.t 4)⟩,
  ⟨some 12, none, true, .ld false 1 (.t 11)⟩,
  ⟨some 13, none, true, .bin .mul (.t 10) (.t 12)⟩,
  ⟨some 14, none, true, .bin .add (.t 9) (.t 13)⟩,
  ⟨some 15, none, true, .fadr 4 (.t 4)⟩,
  ⟨some 16, none, true, .ld false 1 (.t 15)⟩,
  ⟨some 17, none, true, .mv (.t 1)⟩,
  ⟨some 18, none, true, .idxS 2 (.t 16) (.t 17)⟩,
  ⟨some 19, none, true, .fadr 0 (.t 18)⟩,
  ⟨some 20, none, true, .ld false 1 (.t 19)⟩,
  ⟨some 21, none, false, .bin .geq (.t 14) (.t 20)⟩,
  ⟨some 8, none, false, .mv (.t 21)⟩]

def a_lease_Programme_meets : Ann := ⟨[(1, [8]), (0, [1, 2, 3, 4])], [], [], [], [], [], [], [], [], []⟩
def f_lease_Programme_meets : Abs.Fn := ⟨4, [.t 8],
  (.seq (.reg [1, 2, 3, 4] f_lease_Programme_meets_r0) (.seq (.reg [8] f_lease_Programme_meets_r1) .ret))⟩

theorem e_lease_Programme_meets_r0 : type_of% f_lease_Programme_meets_r0.eq_1 := by_rfl f_lease_Programme_meets_r0.eq_1
theorem e_lease_Programme_meets_r1 : type_of% f_lease_Programme_meets_r1.eq_1 := by_rfl f_lease_Programme_meets_r1.eq_1
theorem e_lease_Programme_meets : type_of% f_lease_Programme_meets.eq_1 := by_rfl f_lease_Programme_meets.eq_1
theorem ok_lease_Programme_meets : fnC Tryz.prog a_lease_Programme_meets Tryz.f56 = some f_lease_Programme_meets := by kernel_rfl

/-! 57 (fumarole/lease.Year).cost -/
def f_lease_Year_cost_r0 : List Abs.Op := [
  ⟨some 2, none, false, .boxi (.t 0)⟩,
  ⟨some 4, none, false, .mv (.c (.int .i64 0))⟩]

def f_lease_Year_cost_r1 : List Abs.Op := [
  ⟨some 5, none, false, .mv (.t 1)⟩,
  ⟨some 6, none, false, .fadr 1 (.t 2)⟩,
  ⟨some 7, none, false, .ld false 1 (.t 6)⟩,
  ⟨some 8, none, false, .bin .mul (.t 5) (.t 7)⟩,
  ⟨some 4, none, false, .mv (.t 8)⟩]

def a_lease_Year_cost : Ann := ⟨[(1, [4]), (0, [1, 2])], [], [], [], [], [], [], [], [], []⟩
def f_lease_Year_cost : Abs.Fn := ⟨2, [.t 4],
  (.seq (.reg [1, 2] f_lease_Year_cost_r0) (.seq (.reg [4] f_lease_Year_cost_r1) .ret))⟩

theorem e_lease_Year_cost_r0 : type_of% f_lease_Year_cost_r0.eq_1 := by_rfl f_lease_Year_cost_r0.eq_1
theorem e_lease_Year_cost_r1 : type_of% f_lease_Year_cost_r1.eq_1 := by_rfl f_lease_Year_cost_r1.eq_1
theorem e_lease_Year_cost : type_of% f_lease_Year_cost.eq_1 := by_rfl f_lease_Year_cost.eq_1
theorem ok_lease_Year_cost : fnC Tryz.prog a_lease_Year_cost Tryz.f57 = some f_lease_Year_cost := by kernel_rfl

/-! 58 (fumarole/lease.Programme).after -/
def f_lease_Programme_after_r0 : List Abs.Op := [
  ⟨some 3, none, false, .boxi (.t 0)⟩,
  ⟨some 6, none, false, .mv (.c (.int .i64 0))⟩]

def f_lease_Programme_after_r1 : List Abs.Op := [
  ⟨some 7, none, false, .mv (.t 1)⟩,
  ⟨some 8, none, false, .mv (.t 2)⟩,
  ⟨some 9, none, false, .fadr 1 (.t 3)⟩,
  ⟨some 10, none, false, .ld false 1 (.t 9)⟩,
  ⟨some 11, none, false, .bin .mul (.t 8) (.t 10)⟩,
  ⟨some 12, none, false, .bin .add (.t 7) (.t 11)⟩,
  ⟨some 13, none, false, .fadr 2 (.t 3)⟩,
  ⟨some 14, none, false, .ld false 1 (.t 13)⟩,
  ⟨some 15, none, false, .bin .mul (.t 12) (.t 14)⟩,
  ⟨some 16, none, false, .bin .quo (.t 15) (.c (.int .i64 1000))⟩,
  ⟨some 6, none, false, .mv (.t 16)⟩]

def a_lease_Programme_after : Ann := ⟨[(1, [6]), (0, [1, 2, 3])], [], [], [], [], [], [], [], [], []⟩
def f_lease_Programme_after : Abs.Fn := ⟨3, [.t 6],
  (.seq (.reg [1, 2, 3] f_lease_Programme_after_r0) (.seq (.reg [6] f_lease_Programme_after_r1) .ret))⟩

theorem e_lease_Programme_after_r0 : type_of% f_lease_Programme_after_r0.eq_1 := by_rfl f_lease_Programme_after_r0.eq_1
theorem e_lease_Programme_after_r1 : type_of% f_lease_Programme_after_r1.eq_1 := by_rfl f_lease_Programme_after_r1.eq_1
theorem e_lease_Programme_after : type_of% f_lease_Programme_after.eq_1 := by_rfl f_lease_Programme_after.eq_1
theorem ok_lease_Programme_after : fnC Tryz.prog a_lease_Programme_after Tryz.f58 = some f_lease_Programme_after := by kernel_rfl

/-! 59 fumarole/fumaroleref11.RightTable -/
def f_ref11_RightTable_r0 : List Abs.Op := [
  ⟨some 2, none, false, .boxi (.t 0)⟩,
  ⟨some 4, none, false, .mv (.c (.bool false))⟩]

def f_ref11_RightTable_r1 : List Abs.Op := [
  ⟨some 13, none, false, .mv (.t 1)⟩,
  ⟨some 14, none, false, .lenS (.t 13)⟩,
  ⟨some 15, none, false, .fadr 4 (.t 2)⟩,
  ⟨some 16, none, false, .ld false 1 (.t 15)⟩,
  ⟨some 17, none, false, .lenS (.t 16)⟩,
  ⟨some 18, none, false, .bin .neq (.t 14) (.t 17)⟩]

def f_ref11_RightTable_r2 : List Abs.Op := [
  ⟨some 4, none, false, .mv (.c (.bool false))⟩]

def f_ref11_RightTable_r3 : List Abs.Op := [
  ⟨some 5, none, false, .mv (.c (.int .i64 0))⟩]

def f_ref11_RightTable_r4 : List Abs.Op := [
  ⟨some 19, none, false, .mv (.t 5)⟩,
  ⟨some 20, none, false, .mv (.t 1)⟩,
  ⟨some 21, none, false, .lenS (.t 20)⟩,
  ⟨some 22, none, false, .bin .lss (.t 19) (.t 21)⟩]

def f_ref11_RightTable_r5 : List Abs.Op := [
  ⟨some 25, none, false, .mv (.t 1)⟩,
  ⟨some 26, none, false, .mv (.t 5)⟩,
  ⟨some 27, none, false, .idxS 1 (.t 25) (.t 26)⟩,
  ⟨some 28, none, false, .ld false 1 (.t 27)⟩,
  ⟨some 6, none, false, .mv (.t 28)⟩]

def f_ref11_RightTable_r6 : List Abs.Op := [
  ⟨some 29, none, false, .mv (.t 6)⟩,
  ⟨some 30, none, false, .lenS (.t 29)⟩,
  ⟨some 31, none, false, .bin .lss (.t 30) (.c (.int .i64 1))⟩,
  ⟨some 32, none, false, .mv (.t 31)⟩,
  ⟨some 33, some (32, false), false, .mv (.t 6)⟩,
  ⟨some 34, some (32, false), false, .lenS (.t 33)⟩,
  ⟨some 35, some (32, false), false, .bin .gtr (.t 34) (.c (.int .i64 70000))⟩,
  ⟨some 36, none, false, .pick (.t 32) (.c (.bool true)) (.t 35)⟩,
  ⟨some 37, none, false, .mv (.t 36)⟩,
  ⟨some 38, some (37, false), false, .mv (.t 6)⟩,
  ⟨some 39, some (37, false), false, .mv (.t 6)⟩,
  ⟨some 40, some (37, false), false, .lenS (.t 39)⟩,
  ⟨some 41, some (37, false), false, .bin .sub (.t 40) (.c (.int .i64 1))⟩,
  ⟨some 42, some (37, false), false, .idxS 2 (.t 38) (.t 41)⟩,
  ⟨some 43, some (37, false), false, .fadr 0 (.t 42)⟩,
  ⟨some 44, some (37, false), false, .ld false 1 (.t 43)⟩,
  ⟨some 45, some (37, false), false, .bin .neq (.t 44) (.c (.int .i64 100000000))⟩,
  ⟨some 46, none, false, .pick (.t 37) (.c (.bool true)) (.t 45)⟩]

def f_ref11_RightTable_r7 : List Abs.Op := [
  ⟨some 4, none, false, .mv (.c (.bool false))⟩]

def f_ref11_RightTable_r8 : List Abs.Op := [
  ⟨some 7, none, false, .mv (.c (.int .i64 0))⟩]

def f_ref11_RightTable_r9 : List Abs.Op := [
  ⟨some 47, none, false, .mv (.t 7)⟩,
  ⟨some 48, none, false, .mv (.t 6)⟩,
  ⟨some 49, none, false, .lenS (.t 48)⟩,
  ⟨some 50, none, false, .bin .lss (.t 47) (.t 49)⟩]

def f_ref11_RightTable_r10 : List Abs.Op := [
  ⟨some 53, none, true, .mv (.t 6)⟩,
  ⟨some 54, none, true, .mv (.t 7)⟩,
  ⟨some 55, none, true, .idxS 2 (.t 53) (.t 54)⟩,
  ⟨some 56, none, true, .fadr 0 (.t 55)⟩,
  ⟨some 57, none, true, .ld false 1 (.t 56)⟩,
  ⟨some 58, none, true, .bin .lss (.t 57) (.c (.int .i64 0))⟩,
  ⟨some 59, none, true, .mv (.t 58)⟩,
  ⟨some 60, some (59, false), true, .mv (.t 6)⟩,
  ⟨some 61, some (59, false), true, .mv (.t 7)⟩,
  ⟨some 62, some (59, false), true, .idxS 2 (.t 60) (.t 61)⟩,
  ⟨some 63, some (59, false), true, .fadr 1 (.t 62)⟩,
  ⟨some 64, some (59, false), true, .ld false 1 (.t 63)⟩,
  ⟨some 65, some (59, false), true, .call false (.c (.fn i_ref11_In [] [])) [(.t 64), (.c (.int .i64 0)), (.c (.int .i64 1000000000000))]⟩,
  ⟨some 66, some (59, false), true, .un .not (.t 65)⟩,
  ⟨some 67, none, true, .pick (.t 59) (.c (.bool true)) (.t 66)⟩,
  ⟨some 68, none, true, .mv (.t 67)⟩,
  ⟨some 69, some (68, false), true, .mv (.t 7)⟩,
  ⟨some 70, some (68, false), true, .bin .gtr (.t 69) (.c (.int .i64 0))⟩,
  ⟨some 71, some (68, false), true, .mv (.t 70)⟩,
  ⟨some 72, some (71, true), true, .mv (.t 6)⟩,
  ⟨some 73, some (71, true), true, .mv (.t 7)⟩,
  ⟨some 74, some (71, true), true, .idxS 2 (.t 72) (.t 73)⟩,
  ⟨some 75, some (71, true), true, .fadr 0 (.t 74)⟩,
  ⟨some 76, some (71, true), true, .ld false 1 (.t 75)⟩,
  ⟨some 77, some (71, true), true, .mv (.t 6)⟩,
  ⟨some 78, some (71, true), true, .mv (.t 7)⟩,
  ⟨some 79, some (71, true), true, .bin .sub (.t 78) (.c (.int .i64 1))⟩,
  ⟨some 80, some (71, true), true, .idxS 2 (.t 77) (.t 79)⟩,
  ⟨some 81, some (71, true), true, .fadr 0 (.t 80)⟩,
  ⟨some 82, some (71, true), true, .ld false 1 (.t 81)⟩,
  ⟨some 83, some (71, true), true, .bin .leq (.t 76) (.t 82)⟩,
  ⟨some 84, some (71, true), true, .mv (.t 83)⟩,
  ⟨some 85, some (84, false), true, .mv (.t 6)⟩,
  ⟨some 86, some (84, false), true, .mv (.t 7)⟩,
  ⟨some 87, some (84, false), true, .idxS 2 (.t 85) (.t 86)⟩,
  ⟨some 88, some (84, false), true, .fadr 1 (.t 87)⟩,
  ⟨some 89, some (84, false), true, .ld false 1 (.t 88)⟩,
  ⟨some 90, some (84, false), true, .mv (.t 6)⟩,
  ⟨some 91, some (84, false), true, .mv (.t 7)⟩,
  ⟨some 92, some (84, false), true, .bin .sub (.t 91) (.c (.int .i64 1))⟩,
  ⟨some 93, some (84, false), true, .idxS 2 (.t 90) (.t 92)⟩,
  ⟨some 94, some (84, false), true, .fadr 1 (.t 93)⟩,
  ⟨some 95, some (84, false), true, .ld false 1 (.t 94)⟩,
  ⟨some 96, some (84, false), false, .bin .geq (.t 89) (.t 95)⟩,
  ⟨some 97, some (71, true), false, .pick (.t 84) (.c (.bool true)) (.t 96)⟩,
  ⟨some 98, some (68, false), false, .pick (.t 71) (.t 97) (.c (.bool false))⟩,
  ⟨some 99, none, false, .pick (.t 68) (.c (.bool true)) (.t 98)⟩]

def f_ref11_RightTable_r11 : List Abs.Op := [
  ⟨some 4, none, false, .mv (.c (.bool false))⟩]

def f_ref11_RightTable_r12 : List Abs.Op := [
  ⟨some 51, none, false, .mv (.t 7)⟩,
  ⟨some 52, none, false, .bin .add (.t 51) (.c (.int .i64 1))⟩,
  ⟨some 7, none, false, .mv (.t 52)⟩]

def f_ref11_RightTable_l13 : Abs.Cmd :=
  (.seq (.seq (.reg [1, 2, 5, 6, 7, 50] f_ref11_RightTable_r9) (.ite (.t 50) .nop (.exit 2))) (.seq (.blk 3 (.seq (.reg [1, 2, 5, 6, 7, 99] f_ref11_RightTable_r10) (.ite (.t 99) (.seq (.reg [4] f_ref11_RightTable_r11) .ret) .nop))) (.reg [1, 2, 5, 6, 7] f_ref11_RightTable_r12)))

def f_ref11_RightTable_r14 : List Abs.Op := [
  ⟨some 23, none, false, .mv (.t 5)⟩,
  ⟨some 24, none, false, .bin .add (.t 23) (.c (.int .i64 1))⟩,
  ⟨some 5, none, false, .mv (.t 24)⟩]

def f_ref11_RightTable_l15 : Abs.Cmd :=
  (.seq (.seq (.reg [1, 2, 5, 22] f_ref11_RightTable_r4) (.ite (.t 22) .nop (.exit 0))) (.seq (.blk 1 (.seq (.reg [1, 2, 5, 6] f_ref11_RightTable_r5) (.seq (.seq (.reg [1, 2, 5, 6, 46] f_ref11_RightTable_r6) (.ite (.t 46) (.seq (.reg [4] f_ref11_RightTable_r7) .ret) .nop)) (.seq (.reg [1, 2, 5, 6, 7] f_ref11_RightTable_r8) (.blk 2 (.loop [1, 2, 5, 6, 7] false f_ref11_RightTable_l13)))))) (.reg [1, 2, 5] f_ref11_RightTable_r14)))

def f_ref11_RightTable_r16 : List Abs.Op := [
  ⟨some 8, none, false, .mv (.c (.int .i64 0))⟩]

def f_ref11_RightTable_r17 : List Abs.Op := [
  ⟨some 100, none, false, .mv (.t 8)⟩,
  ⟨some 101, none, false, .mv (.t 1)⟩,
  ⟨some 102, none, false, .lenS (.t 101)⟩,
  ⟨some 103, none, false, .bin .lss (.t 100) (.t 102)⟩]

def f_ref11_RightTable_r18 : List Abs.Op := [
  ⟨some 9, none, false, .mv (.c (.int .i64 0))⟩]

def f_ref11_RightTable_r19 : List Abs.Op := [
  ⟨some 106, none, false, .mv (.t 9)⟩,
  ⟨some 107, none, false, .mv (.t 1)⟩,
  ⟨some 108, none, false, .mv (.t 8)⟩,
  ⟨some 109, none, false, .idxS 1 (.t 107) (.t 108)⟩,
  ⟨some 110, none, false, .ld false 1 (.t 109)⟩,
  ⟨some 111, none, false, .lenS (.t 110)⟩,
  ⟨some 112, none, false, .bin .lss (.t 106) (.t 111)⟩]

def f_ref11_RightTable_r20 : List Abs.Op := [
  ⟨some 10, none, false, .mv (.c (.int .i64 0))⟩]

def f_ref11_RightTable_r21 : List Abs.Op := [
  ⟨some 115, none, false, .mv (.t 10)⟩,
  ⟨some 116, none, false, .fadr 3 (.t 2)⟩,
  ⟨some 117, none, false, .ld false 1 (.t 116)⟩,
  ⟨some 118, none, false, .bin .leq (.t 115) (.t 117)⟩]

def f_ref11_RightTable_r22 : List Abs.Op := [
  ⟨some 121, none, true, .mv (.t 1)⟩,
  ⟨some 122, none, true, .mv (.t 8)⟩,
  ⟨some 123, none, true, .idxS 1 (.t 121) (.t 122)⟩,
  ⟨some 124, none, true, .ld false 1 (.t 123)⟩,
  ⟨some 125, none, true, .mv (.t 9)⟩,
  ⟨some 126, none, true, .idxS 2 (.t 124) (.t 125)⟩,
  ⟨some 127, none, true, .fadr 0 (.t 126)⟩,
  ⟨some 128, none, true, .ld false 1 (.t 127)⟩,
  ⟨some 129, none, true, .mv (.t 10)⟩,
  ⟨some 130, none, true, .fadr 1 (.t 2)⟩,
  ⟨some 131, none, true, .ld false 1 (.t 130)⟩,
  ⟨some 132, none, true, .bin .mul (.t 129) (.t 131)⟩,
  ⟨some 133, none, false, .bin .add (.t 128) (.t 132)⟩,
  ⟨some 11, none, false, .mv (.t 133)⟩]

def f_ref11_RightTable_r23 : List Abs.Op := [
  ⟨some 134, none, false, .mv (.t 11)⟩,
  ⟨some 135, none, false, .fadr 4 (.t 2)⟩,
  ⟨some 136, none, false, .ld false 1 (.t 135)⟩,
  ⟨some 137, none, false, .mv (.t 8)⟩,
  ⟨some 138, none, false, .idxS 2 (.t 136) (.t 137)⟩,
  ⟨some 139, none, false, .fadr 0 (.t 138)⟩,
  ⟨some 140, none, false, .ld false 1 (.t 139)⟩,
  ⟨some 141, none, false, .bin .lss (.t 134) (.t 140)⟩]

def f_ref11_RightTable_r24 : List Abs.Op := [
  ⟨some 12, none, false, .mv (.c (.int .i64 0))⟩]

def f_ref11_RightTable_r25 : List Abs.Op := [
  ⟨some 142, none, false, .mv (.t 8)⟩,
  ⟨some 143, none, false, .bin .add (.t 142) (.c (.int .i64 1))⟩,
  ⟨some 144, none, false, .mv (.t 1)⟩,
  ⟨some 145, none, false, .lenS (.t 144)⟩,
  ⟨some 146, none, false, .bin .lss (.t 143) (.t 145)⟩]

def f_ref11_RightTable_r26 : List Abs.Op := [
  ⟨some 147, none, true, .mv (.t 1)⟩,
  ⟨some 148, none, true, .mv (.t 8)⟩,
  ⟨some 149, none, true, .bin .add (.t 148) (.c (.int .i64 1))⟩,
  ⟨some 150, none, true, .idxS 1 (.t 147) (.t 149)⟩,
  ⟨some 151, none, true, .ld false 1 (.t 150)⟩,
  ⟨some 152, none, true, .mv (.t 11)⟩,
  ⟨some 153, none, true, .fadr 2 (.t 2)⟩,
  ⟨some 154, none, true, .ld false 1 (.t 153)⟩,
  ⟨some 155, none, true, .bin .mul (.t 152) (.t 154)⟩,
  ⟨some 156, none, true, .bin .quo (.t 155) (.c (.int .i64 1000))⟩,
  ⟨some 157, none, false, .call false (.c (.fn i_ref11_Cost [] [])) [(.t 151), (.t 156)]⟩,
  ⟨some 12, none, false, .mv (.t 157)⟩]

def f_ref11_RightTable_r27 : List Abs.Op := [
  ⟨some 158, none, true, .mv (.t 1)⟩,
  ⟨some 159, none, true, .mv (.t 8)⟩,
  ⟨some 160, none, true, .idxS 1 (.t 158) (.t 159)⟩,
  ⟨some 161, none, true, .ld false 1 (.t 160)⟩,
  ⟨some 162, none, true, .mv (.t 9)⟩,
  ⟨some 163, none, true, .idxS 2 (.t 161) (.t 162)⟩,
  ⟨some 164, none, true, .fadr 1 (.t 163)⟩,
  ⟨some 165, none, true, .ld false 1 (.t 164)⟩,
  ⟨some 166, none, true, .mv (.t 10)⟩,
  ⟨some 167, none, true, .fadr 4 (.t 2)⟩,
  ⟨some 168, none, true, .ld false 1 (.t 167)⟩,
  ⟨some 169, none, true, .mv (.t 8)⟩,
  ⟨some 170, none, true, .idxS 2 (.t 168) (.t 169)⟩,
  ⟨some 171, none, true, .fadr 1 (.t 170)⟩,
  ⟨some 172, none, true, .ld false 1 (.t 171)⟩,
  ⟨some 173, none, true, .bin .mul (.t 166) (.t 172)⟩,
  ⟨some 174, none, true, .mv (.t 12)⟩,
  ⟨some 175, none, true, .bin .add (.t 173) (.t 174)⟩,
  ⟨some 176, none, true, .mn (.c (.int .i64 1000000000000)) (.t 175)⟩,
  ⟨some 177, none, false, .bin .gtr (.t 165) (.t 176)⟩]

def f_ref11_RightTable_r28 : List Abs.Op := [
  ⟨some 4, none, false, .mv (.c (.bool false))⟩]

def f_ref11_RightTable_r29 : List Abs.Op := [
  ⟨some 119, none, false, .mv (.t 10)⟩,
  ⟨some 120, none, false, .bin .add (.t 119) (.c (.int .i64 1))⟩,
  ⟨some 10, none, false, .mv (.t 120)⟩]

def f_ref11_RightTable_l30 : Abs.Cmd :=
  (.seq (.seq (.reg [1, 2, 8, 9, 10, 118] f_ref11_RightTable_r21) (.ite (.t 118) .nop (.exit 8))) (.seq (.blk 9 (.seq (.reg [1, 2, 8, 9, 10, 11] f_ref11_RightTable_r22) (.seq (.seq (.reg [1, 2, 8, 9, 10, 11, 141] f_ref11_RightTable_r23) (.ite (.t 141) (.exit 9) .nop)) (.seq (.reg [1, 2, 8, 9, 10, 11, 12] f_ref11_RightTable_r24) (.seq (.seq (.reg [1, 2, 8, 9, 10, 11, 12, 146] f_ref11_RightTable_r25) (.ite (.t 146) (.reg [1, 2, 8, 9, 10, 12] f_ref11_RightTable_r26) .nop)) (.seq (.reg [1, 2, 8, 9, 10, 177] f_ref11_RightTable_r27) (.ite (.t 177) (.seq (.reg [4] f_ref11_RightTable_r28) .ret) .nop))))))) (.reg [1, 2, 8, 9, 10] f_ref11_RightTable_r29)))

def f_ref11_RightTable_r31 : List Abs.Op := [
  ⟨some 113, none, false, .mv (.t 9)⟩,
  ⟨some 114, none, false, .bin .add (.t 113) (.c (.int .i64 1))⟩,
  ⟨some 9, none, false, .mv (.t 114)⟩]

def f_ref11_RightTable_l32 : Abs.Cmd :=
  (.seq (.seq (.reg [1, 2, 8, 9, 112] f_ref11_RightTable_r19) (.ite (.t 112) .nop (.exit 6))) (.seq (.blk 7 (.seq (.reg [1, 2, 8, 9, 10] f_ref11_RightTable_r20) (.blk 8 (.loop [1, 2, 8, 9, 10] false f_ref11_RightTable_l30)))) (.reg [1, 2, 8, 9] f_ref11_RightTable_r31)))

def f_ref11_RightTable_r33 : List Abs.Op := [
  ⟨some 104, none, false, .mv (.t 8)⟩,
  ⟨some 105, none, false, .bin .add (.t 104) (.c (.int .i64 1))⟩,
  ⟨some 8, none, false, .mv (.t 105)⟩]

def f_ref11_RightTable_l34 : Abs.Cmd :=
  (.seq (.seq (.reg [1, 2, 8, 103] f_ref11_RightTable_r17) (.ite (.t 103) .nop (.exit 4))) (.seq (.blk 5 (.seq (.reg [1, 2, 8, 9] f_ref11_RightTable_r18) (.blk 6 (.loop [1, 2, 8, 9] false f_ref11_RightTable_l32)))) (.reg [1, 2, 8] f_ref11_RightTable_r33)))

def f_ref11_RightTable_r35 : List Abs.Op := [
  ⟨some 4, none, false, .mv (.c (.bool true))⟩]

def a_ref11_RightTable : Ann := ⟨[(30, [4]), (16, [1, 2, 8]), (19, [1, 2, 8, 9]), (22, [1, 2, 8, 9, 10]), (29, [4]), (28, [1, 2, 8, 9, 10, 177]), (27, [1, 2, 8, 9, 10, 12]), (26, [1, 2, 8, 9, 10, 11, 12, 146]), (25, [1, 2, 8, 9, 10, 11, 12]), (24, [1, 2, 8, 9, 10, 11, 141]), (23, [1, 2, 8, 9, 10, 11]), (21, [1, 2, 8, 9, 10, 118]), (20, [1, 2, 8, 9, 10]), (18, [1, 2, 8, 9, 112]), (17, [1, 2, 8, 9]), (15, [1, 2, 8, 103]), (14, [1, 2, 8]), (5, [1, 2, 5]), (11, [1, 2, 5, 6, 7]), (13, [4]), (12, [1, 2, 5, 6, 7, 99]), (10, [1, 2, 5, 6, 7, 50]), (9, [1, 2, 5, 6, 7]), (8, [4]), (7, [1, 2, 5, 6, 46]), (6, [1, 2, 5, 6]), (4, [1, 2, 5, 22]), (3, [1, 2, 5]), (2, [4]), (1, [1, 2, 18]), (0, [1, 2])], [(8, [1, 2, 8, 9, 10]), (6, [1, 2, 8, 9]), (4, [1, 2, 8]), (2, [1, 2, 5, 6, 7]), (0, [1, 2, 5])], [], [], [], [], [], [], [], []⟩
def f_ref11_RightTable : Abs.Fn := ⟨2, [.t 4],
  (.seq (.reg [1, 2] f_ref11_RightTable_r0) (.seq (.seq (.reg [1, 2, 18] f_ref11_RightTable_r1) (.ite (.t 18) (.seq (.reg [4] f_ref11_RightTable_r2) .ret) .nop)) (.seq (.seq (.reg [1, 2, 5] f_ref11_RightTable_r3) (.blk 0 (.loop [1, 2, 5] false f_ref11_RightTable_l15))) (.seq (.seq (.reg [1, 2, 8] f_ref11_RightTable_r16) (.blk 4 (.loop [1, 2, 8] false f_ref11_RightTable_l34))) (.seq (.reg [4] f_ref11_RightTable_r35) .ret)))))⟩

theorem e_ref11_RightTable_r0 : type_of% f_ref11_RightTable_r0.eq_1 := by_rfl f_ref11_RightTable_r0.eq_1
theorem e_ref11_RightTable_r1 : type_of% f_ref11_RightTable_r1.eq_1 := by_rfl f_ref11_RightTable_r1.eq_1
theorem e_ref11_RightTable_r2 : type_of% f_ref11_RightTable_r2.eq_1 := by_rfl f_ref11_RightTable_r2.eq_1
theorem e_ref11_RightTable_r3 : type_of% f_ref11_RightTable_r3.eq_1 := by_rfl f_ref11_RightTable_r3.eq_1
theorem e_ref11_RightTable_r4 : type_of% f_ref11_RightTable_r4.eq_1 := by_rfl f_ref11_RightTable_r4.eq_1
theorem e_ref11_RightTable_r5 : type_of% f_ref11_RightTable_r5.eq_1 := by_rfl f_ref11_RightTable_r5.eq_1
theorem e_ref11_RightTable_r6 : type_of% f_ref11_RightTable_r6.eq_1 := by_rfl f_ref11_RightTable_r6.eq_1
theorem e_ref11_RightTable_r7 : type_of% f_ref11_RightTable_r7.eq_1 := by_rfl f_ref11_RightTable_r7.eq_1
theorem e_ref11_RightTable_r8 : type_of% f_ref11_RightTable_r8.eq_1 := by_rfl f_ref11_RightTable_r8.eq_1
theorem e_ref11_RightTable_r9 : type_of% f_ref11_RightTable_r9.eq_1 := by_rfl f_ref11_RightTable_r9.eq_1
theorem e_ref11_RightTable_r10 : type_of% f_ref11_RightTable_r10.eq_1 := by_rfl f_ref11_RightTable_r10.eq_1
theorem e_ref11_RightTable_r11 : type_of% f_ref11_RightTable_r11.eq_1 := by_rfl f_ref11_RightTable_r11.eq_1
theorem e_ref11_RightTable_r12 : type_of% f_ref11_RightTable_r12.eq_1 := by_rfl f_ref11_RightTable_r12.eq_1
theorem e_ref11_RightTable_l13 : type_of% f_ref11_RightTable_l13.eq_1 := by_rfl f_ref11_RightTable_l13.eq_1
theorem e_ref11_RightTable_r14 : type_of% f_ref11_RightTable_r14.eq_1 := by_rfl f_ref11_RightTable_r14.eq_1
theorem e_ref11_RightTable_l15 : type_of% f_ref11_RightTable_l15.eq_1 := by_rfl f_ref11_RightTable_l15.eq_1
theorem e_ref11_RightTable_r16 : type_of% f_ref11_RightTable_r16.eq_1 := by_rfl f_ref11_RightTable_r16.eq_1
theorem e_ref11_RightTable_r17 : type_of% f_ref11_RightTable_r17.eq_1 := by_rfl f_ref11_RightTable_r17.eq_1
theorem e_ref11_RightTable_r18 : type_of% f_ref11_RightTable_r18.eq_1 := by_rfl f_ref11_RightTable_r18.eq_1
theorem e_ref11_RightTable_r19 : type_of% f_ref11_RightTable_r19.eq_1 := by_rfl f_ref11_RightTable_r19.eq_1
theorem e_ref11_RightTable_r20 : type_of% f_ref11_RightTable_r20.eq_1 := by_rfl f_ref11_RightTable_r20.eq_1
theorem e_ref11_RightTable_r21 : type_of% f_ref11_RightTable_r21.eq_1 := by_rfl f_ref11_RightTable_r21.eq_1
theorem e_ref11_RightTable_r22 : type_of% f_ref11_RightTable_r22.eq_1 := by_rfl f_ref11_RightTable_r22.eq_1
theorem e_ref11_RightTable_r23 : type_of% f_ref11_RightTable_r23.eq_1 := by_rfl f_ref11_RightTable_r23.eq_1
theorem e_ref11_RightTable_r24 : type_of% f_ref11_RightTable_r24.eq_1 := by_rfl f_ref11_RightTable_r24.eq_1
theorem e_ref11_RightTable_r25 : type_of% f_ref11_RightTable_r25.eq_1 := by_rfl f_ref11_RightTable_r25.eq_1
theorem e_ref11_RightTable_r26 : type_of% f_ref11_RightTable_r26.eq_1 := by_rfl f_ref11_RightTable_r26.eq_1
theorem e_ref11_RightTable_r27 : type_of% f_ref11_RightTable_r27.eq_1 := by_rfl f_ref11_RightTable_r27.eq_1
theorem e_ref11_RightTable_r28 : type_of% f_ref11_RightTable_r28.eq_1 := by_rfl f_ref11_RightTable_r28.eq_1
theorem e_ref11_RightTable_r29 : type_of% f_ref11_RightTable_r29.eq_1 := by_rfl f_ref11_RightTable_r29.eq_1
theorem e_ref11_RightTable_l30 : type_of% f_ref11_RightTable_l30.eq_1 := by_rfl f_ref11_RightTable_l30.eq_1
theorem e_ref11_RightTable_r31 : type_of% f_ref11_RightTable_r31.eq_1 := by_rfl f_ref11_RightTable_r31.eq_1
theorem e_ref11_RightTable_l32 : type_of% f_ref11_RightTable_l32.eq_1 := by_rfl f_ref11_RightTable_l32.eq_1
theorem e_ref11_RightTable_r33 : type_of% f_ref11_RightTable_r33.eq_1 := by_rfl f_ref11_RightTable_r33.eq_1
theorem e_ref11_RightTable_l34 : type_of% f_ref11_RightTable_l34.eq_1 := by_rfl f_ref11_RightTable_l34.eq_1
theorem e_ref11_RightTable_r35 : type_of% f_ref11_RightTable_r35.eq_1 := by_rfl f_ref11_RightTable_r35.eq_1
theorem e_ref11_RightTable : type_of% f_ref11_RightTable.eq_1 := by_rfl f_ref11_RightTable.eq_1
theorem ok_ref11_RightTable : fnC Tryz.prog a_ref11_RightTable Tryz.f59 = some f_ref11_RightTable := by kernel_rfl

/-! 60 fumarole/fumaroleref11.Cost -/
def f_ref11_Cost_r0 : List Abs.Op := [
  ⟨some 4, none, false, .mv (.c (.int .i64 0))⟩]

def f_ref11_Cost_r1 : List Abs.Op := [
  ⟨some 5, none, false, .mv (.c (.int .i64 0))⟩]

def f_ref11_Cost_r2 : List Abs.Op := [
  ⟨some 6, none, false, .mv (.t 5)⟩,
  ⟨some 7, none, false, .mv (.t 0)⟩,
  ⟨some 8, none, false, .lenS (.t 7)⟩,
  ⟨some 9, none, false, .bin .lss (.t 6) (.t 8)⟩]

def f_ref11_Cost_r3 : List Abs.Op := [
  ⟨some 12, none, false, .mv (.t 1)⟩,
  ⟨some 13, none, false, .mv (.t 0)⟩,
  ⟨some 14, none, false, .mv (.t 5)⟩,
  ⟨some 15, none, false, .idxS 2 (.t 13) (.t 14)⟩,
  ⟨some 16, none, false, .fadr 0 (.t 15)⟩,
  ⟨some 17, none, false, .ld false 1 (.t 16)⟩,
  ⟨some 18, none, false, .bin .leq (.t 12) (.t 17)⟩,
  ⟨some 19, none, false, .mv (.t 18)⟩,
  ⟨some 20, some (19, false), false, .mv (.t 5)⟩,
  ⟨some 21, some (19, false), false, .mv (.t 0)⟩,
  ⟨some 22, some (19, false), false, .lenS (.t 21)⟩,
  ⟨some 23, some (19, false), false, .bin .sub (.t 22) (.c (.int .i64 1))⟩,
  ⟨some 24, some (19, false), false, .bin .eql (.t 20) (.t 23)⟩,
  ⟨some 25, none, false, .pick (.t 19) (.c (.bool true)) (.t 24)⟩]

def f_ref11_Cost_r4 : List Abs.Op := [
  ⟨some 26, none, false, .mv (.t 0)⟩,
  ⟨some 27, none, false, .mv (.t 5)⟩,
  ⟨some 28, none, false, .idxS 2 (.t 26) (.t 27)⟩,
  ⟨some 29, none, false, .fadr 1 (.t 28)⟩,
  ⟨some 30, none, false, .ld false 1 (.t 29)⟩,
  ⟨some 4, none, false, .mv (.t 30)⟩]

def f_ref11_Cost_r5 : List Abs.Op := [
  ⟨some 10, none, false, .mv (.t 5)⟩,
  ⟨some 11, none, false, .bin .add (.t 10) (.c (.int .i64 1))⟩,
  ⟨some 5, none, false, .mv (.t 11)⟩]

def f_ref11_Cost_l6 : Abs.Cmd :=
  (.seq (.seq (.reg [0, 1, 5, 9] f_ref11_Cost_r2) (.ite (.t 9) .nop (.exit 0))) (.seq (.blk 1 (.seq (.reg [0, 1, 5, 25] f_ref11_Cost_r3) (.ite (.t 25) (.seq (.reg [4] f_ref11_Cost_r4) .ret) .nop))) (.reg [0, 1, 5] f_ref11_Cost_r5)))

def f_ref11_Cost_r7 : List Abs.Op := [
  ⟨some 4, none, false, .mv (.c (.int .i64 0))⟩]

def a_ref11_Cost : Ann := ⟨[(6, [4]), (3, [0, 1, 5]), (5, [4]), (4, [0, 1, 5, 25]), (2, [0, 1, 5, 9]), (1, [0, 1, 5]), (0, [0, 1])], [(0, [0, 1, 5])], [], [], [], [], [], [], [], []⟩
def f_ref11_Cost : Abs.Fn := ⟨2, [.t 4],
  (.seq (.reg [0, 1] f_ref11_Cost_r0) (.seq (.seq (.reg [0, 1, 5] f_ref11_Cost_r1) (.blk 0 (.loop [0, 1, 5] false f_ref11_Cost_l6))) (.seq (.reg [4] f_ref11_Cost_r7) .ret)))⟩

theorem e_ref11_Cost_r0 : type_of% f_ref11_Cost_r0.eq_1 := by_rfl f_ref11_Cost_r0.eq_1
theorem e_ref11_Cost_r1 : type_of% f_ref11_Cost_r1.eq_1 := by_rfl f_ref11_Cost_r1.eq_1
theorem e_ref11_Cost_r2 : type_of% f_ref11_Cost_r2.eq_1 := by_rfl f_ref11_Cost_r2.eq_1
theorem e_ref11_Cost_r3 : type_of% f_ref11_Cost_r3.eq_1 := by_rfl f_ref11_Cost_r3.eq_1
theorem e_ref11_Cost_r4 : type_of% f_ref11_Cost_r4.eq_1 := by_rfl f_ref11_Cost_r4.eq_1
theorem e_ref11_Cost_r5 : type_of% f_ref11_Cost_r5.eq_1 := by_rfl f_ref11_Cost_r5.eq_1
theorem e_ref11_Cost_l6 : type_of% f_ref11_Cost_l6.eq_1 := by_rfl f_ref11_Cost_l6.eq_1
theorem e_ref11_Cost_r7 : type_of% f_ref11_Cost_r7.eq_1 := by_rfl f_ref11_Cost_r7.eq_1
theorem e_ref11_Cost : type_of% f_ref11_Cost.eq_1 := by_rfl f_ref11_Cost.eq_1
theorem ok_ref11_Cost : fnC Tryz.prog a_ref11_Cost Tryz.f60 = some f_ref11_Cost := by kernel_rfl

/-! 61 fumarole/lease.taking -/
def f_lease_taking_r0 : List Abs.Op := [
  ⟨some 4, none, false, .mv (.c (.int .i64 0))⟩]

def f_lease_taking_r1 : List Abs.Op := [
  ⟨some 6, none, false, .mv (.t 0)⟩,
  ⟨some 7, none, false, .call false (.c (.fn i_lease_springs [] [])) [(.t 6)]⟩,
  ⟨some 8, none, false, .un .not (.t 7)⟩,
  ⟨some 5, none, false, .mv (.t 8)⟩]

def f_lease_taking_r2 : List Abs.Op := [
  ⟨some 4, none, false, .mv (.c (.int .i64 1))⟩]

def f_lease_taking_r3 : List Abs.Op := [
  ⟨some 10, none, false, .mv (.t 1)⟩,
  ⟨some 11, none, false, .lenS (.t 10)⟩,
  ⟨some 12, none, false, .mv (.t 0)⟩,
  ⟨some 13, none, false, .idxS 3 (.t 12) (.c (.int .i64 0))⟩,
  ⟨some 14, none, false, .fadr 2 (.t 13)⟩,
  ⟨some 15, none, false, .ld false 1 (.t 14)⟩,
  ⟨some 16, none, false, .lenS (.t 15)⟩,
  ⟨some 17, none, false, .bin .neq (.t 11) (.t 16)⟩,
  ⟨some 18, none, false, .mv (.t 17)⟩,
  ⟨some 19, some (18, false), false, .mv (.t 1)⟩,
  ⟨some 20, some (18, false), false, .call false (.c (.fn i_lease_all_int [] [])) [(.t 19), (.c (.fn i_lease_taking_1 [] []))]⟩,
  ⟨some 21, some (18, false), false, .un .not (.t 20)⟩,
  ⟨some 22, none, false, .pick (.t 18) (.c (.bool true)) (.t 21)⟩,
  ⟨some 9, none, false, .mv (.t 22)⟩]

def f_lease_taking_r4 : List Abs.Op := [
  ⟨some 4, none, false, .mv (.c (.int .i64 2))⟩]

def f_lease_taking_r5 : List Abs.Op := [
  ⟨some 4, none, false, .mv (.c (.int .i64 0))⟩]

def a_lease_taking : Ann := ⟨[(5, [4]), (2, [4]), (4, [4]), (3, [9]), (1, [0, 1, 5]), (0, [0, 1])], [], [], [], [], [], [], [], [], []⟩
def f_lease_taking : Abs.Fn := ⟨2, [.t 4],
  (.seq (.reg [0, 1] f_lease_taking_r0) (.seq (.blk 0 (.seq (.reg [0, 1, 5] f_lease_taking_r1) (.ite (.t 5) (.seq (.reg [4] f_lease_taking_r2) .ret) (.seq (.reg [9] f_lease_taking_r3) (.ite (.t 9) (.seq (.reg [4] f_lease_taking_r4) .ret) .nop))))) (.seq (.reg [4] f_lease_taking_r5) .ret)))⟩

theorem e_lease_taking_r0 : type_of% f_lease_taking_r0.eq_1 := by_rfl f_lease_taking_r0.eq_1
theorem e_lease_taking_r1 : type_of% f_lease_taking_r1.eq_1 := by_rfl f_lease_taking_r1.eq_1
theorem e_lease_taking_r2 : type_of% f_lease_taking_r2.eq_1 := by_rfl f_lease_taking_r2.eq_1
theorem e_lease_taking_r3 : type_of% f_lease_taking_r3.eq_1 := by_rfl f_lease_taking_r3.eq_1
theorem e_lease_taking_r4 : type_of% f_lease_taking_r4.eq_1 := by_rfl f_lease_taking_r4.eq_1
theorem e_lease_taking_r5 : type_of% f_lease_taking_r5.eq_1 := by_rfl f_lease_taking_r5.eq_1
theorem e_lease_taking : type_of% f_lease_taking.eq_1 := by_rfl f_lease_taking.eq_1
theorem ok_lease_taking : fnC Tryz.prog a_lease_taking Tryz.f61 = some f_lease_taking := by kernel_rfl

/-! 62 (fumarole/lease.Spring).behind -/
def f_lease_Spring_behind_r0 : List Abs.Op := [
  ⟨some 2, none, false, .boxi (.t 0)⟩,
  ⟨some 4, none, false, .alcv [] [(.int .i64 0), (.int .i64 0)]⟩]

def f_lease_Spring_behind_r1 : List Abs.Op := [
  ⟨some 8, none, false, .fadr 0 (.t 2)⟩,
  ⟨some 9, none, false, .ld false 1 (.t 8)⟩,
  ⟨some 10, none, false, .bin .mul (.c (.int .i64 1000)) (.t 9)⟩,
  ⟨some 11, none, false, .fadr 0 (.t 2)⟩,
  ⟨some 12, none, false, .ld false 1 (.t 11)⟩,
  ⟨some 13, none, false, .bin .mul (.c (.int .i64 1000)) (.t 12)⟩,
  ⟨some 14, none, false, .bld [(.int .i64 0), (.int .i64 0)] [(0, 1, (.t 10)), (1, 1, (.t 13))]⟩,
  ⟨some 5, none, false, .alcv [] [(.int .i64 0), (.int .i64 0)]⟩,
  ⟨none, none, false, .stv 5 [] 2 5 (.t 14)⟩]

def f_lease_Spring_behind_r2 : List Abs.Op := [
  ⟨some 15, none, false, .mv (.t 1)⟩,
  ⟨some 16, none, false, .lenS (.t 15)⟩,
  ⟨some 17, none, false, .mv (.c (.int .i64 0))⟩]

def f_lease_Spring_behind_r3 : List Abs.Op := [
  ⟨some 18, none, false, .bin .lss (.t 17) (.t 16)⟩]

def f_lease_Spring_behind_r4 : List Abs.Op := [
  ⟨some 19, none, false, .mv (.t 17)⟩,
  ⟨some 20, none, false, .idxS 1 (.t 15) (.t 17)⟩,
  ⟨some 21, none, false, .ld false 1 (.t 20)⟩,
  ⟨some 6, none, false, .mv (.t 19)⟩,
  ⟨some 7, none, false, .mv (.t 21)⟩]

def f_lease_Spring_behind_r5 : List Abs.Op := [
  ⟨some 22, none, true, .fadr 0 (.t 5)⟩,
  ⟨some 23, none, true, .ldv 5 false 1 22⟩,
  ⟨some 24, none, true, .mv (.t 7)⟩,
  ⟨some 25, none, true, .fadr 2 (.t 2)⟩,
  ⟨some 26, none, true, .ld false 1 (.t 25)⟩,
  ⟨some 27, none, true, .mv (.t 6)⟩,
  ⟨some 28, none, true, .idxS 2 (.t 26) (.t 27)⟩,
  ⟨some 29, none, true, .fadr 1 (.t 28)⟩,
  ⟨some 30, none, true, .ld false 1 (.t 29)⟩,
  ⟨some 31, none, true, .bin .mul (.t 24) (.t 30)⟩,
  ⟨some 32, none, true, .bin .sub (.t 23) (.t 31)⟩,
  ⟨some 33, none, true, .fadr 1 (.t 5)⟩,
  ⟨some 34, none, true, .ldv 5 false 1 33⟩,
  ⟨some 35, none, true, .mv (.t 7)⟩,
  ⟨some 36, none, true, .fadr 2 (.t 2)⟩,
  ⟨some 37, none, true, .ld false 1 (.t 36)⟩,
  ⟨some 38, none, true, .mv (.t 6)⟩,
  ⟨some 39, none, true, .idxS 2 (.t 37) (.t 38)⟩,
  ⟨some 40, none, true, .fadr 0 (.t 39)⟩,
  ⟨some 41, none, true, .ld false 1 (.t 40)⟩,
  ⟨some 42, none, true, .bin .mul (.t 35) (.t 41)⟩,
  ⟨some 43, none, true, .bin .sub (.t 34) (.t 42)⟩,
  ⟨some 44, none, false, .bld [(.int .i64 0), (.int .i64 0)] [(0, 1, (.t 32)), (1, 1, (.t 43))]⟩,
  ⟨none, none, false, .stv 5 [] 2 5 (.t 44)⟩]

def f_lease_Spring_behind_r6 : List Abs.Op := [
  ⟨some 45, none, false, .bin .add (.t 17) (.c (.int .i64 1))⟩,
  ⟨some 17, none, false, .mv (.t 45)⟩]

def f_lease_Spring_behind_l7 : Abs.Cmd :=
  (.seq (.reg [2, 4, 5, 15, 16, 17, 18] f_lease_Spring_behind_r3) (.seq (.ite (.t 18) .nop (.exit 0)) (.seq (.blk 1 (.seq (.reg [2, 4, 5, 6, 7, 15, 16, 17] f_lease_Spring_behind_r4) (.reg [2, 4, 5, 15, 16, 17] f_lease_Spring_behind_r5))) (.reg [2, 4, 5, 15, 16, 17] f_lease_Spring_behind_r6))))

def f_lease_Spring_behind_r8 : List Abs.Op := [
  ⟨some 46, none, false, .ldv 5 true 2 5⟩,
  ⟨none, none, false, .stv 4 [] 2 4 (.t 46)⟩]

def a_lease_Spring_behind : Ann := ⟨[(7, [4]), (6, [2, 4, 5, 15, 16, 17]), (5, [2, 4, 5, 15, 16, 17]), (4, [2, 4, 5, 6, 7, 15, 16, 17]), (3, [2, 4, 5, 15, 16, 17, 18]), (2, [2, 4, 5, 15, 16, 17]), (1, [1, 2, 4, 5]), (0, [1, 2, 4])], [(0, [2, 4, 5, 15, 16, 17])], [], [4, 5], [4, 5], [], [], [], [], []⟩
def f_lease_Spring_behind : Abs.Fn := ⟨2, [.v 4 true 2],
  (.seq (.reg [1, 2, 4] f_lease_Spring_behind_r0) (.seq (.reg [1, 2, 4, 5] f_lease_Spring_behind_r1) (.seq (.seq (.reg [2, 4, 5, 15, 16, 17] f_lease_Spring_behind_r2) (.blk 0 (.loop [2, 4, 5, 15, 16, 17] false f_lease_Spring_behind_l7))) (.seq (.reg [4] f_lease_Spring_behind_r8) .ret))))⟩

theorem e_lease_Spring_behind_r0 : type_of% f_lease_Spring_behind_r0.eq_1 := by_rfl f_lease_Spring_behind_r0.eq_1
theorem e_lease_Spring_behind_r1 : type_of% f_lease_Spring_behind_r1.eq_1 := by_rfl f_lease_Spring_behind_r1.eq_1
theorem e_lease_Spring_behind_r2 : type_of% f_lease_Spring_behind_r2.eq_1 := by_rfl f_lease_Spring_behind_r2.eq_1
theorem e_lease_Spring_behind_r3 : type_of% f_lease_Spring_behind_r3.eq_1 := by_rfl f_lease_Spring_behind_r3.eq_1
theorem e_lease_Spring_behind_r4 : type_of% f_lease_Spring_behind_r4.eq_1 := by_rfl f_lease_Spring_behind_r4.eq_1
theorem e_lease_Spring_behind_r5 : type_of% f_lease_Spring_behind_r5.eq_1 := by_rfl f_lease_Spring_behind_r5.eq_1
theorem e_lease_Spring_behind_r6 : type_of% f_lease_Spring_behind_r6.eq_1 := by_rfl f_lease_Spring_behind_r6.eq_1
theorem e_lease_Spring_behind_l7 : type_of% f_lease_Spring_behind_l7.eq_1 := by_rfl f_lease_Spring_behind_l7.eq_1
theorem e_lease_Spring_behind_r8 : type_of% f_lease_Spring_behind_r8.eq_1 := by_rfl f_lease_Spring_behind_r8.eq_1
theorem e_lease_Spring_behind : type_of% f_lease_Spring_behind.eq_1 := by_rfl f_lease_Spring_behind.eq_1
theorem ok_lease_Spring_behind : fnC Tryz.prog a_lease_Spring_behind Tryz.f62 = some f_lease_Spring_behind := by kernel_rfl

/-! 63 fumarole/lease.within -/
def f_lease_within_r0 : List Abs.Op := [
  ⟨some 6, none, false, .mv (.c (.bool false))⟩]

def f_lease_within_r1 : List Abs.Op := [
  ⟨some 7, none, false, .mv (.t 1)⟩,
  ⟨some 8, none, false, .mv (.t 0)⟩,
  ⟨some 9, none, false, .bin .leq (.t 7) (.t 8)⟩,
  ⟨some 10, none, false, .mv (.t 9)⟩,
  ⟨some 11, some (10, true), false, .mv (.t 0)⟩,
  ⟨some 12, some (10, true), false, .mv (.t 2)⟩,
  ⟨some 13, some (10, true), false, .bin .leq (.t 11) (.t 12)⟩,
  ⟨some 14, none, false, .pick (.t 10) (.t 13) (.c (.bool false))⟩,
  ⟨some 6, none, false, .mv (.t 14)⟩]

def a_lease_within : Ann := ⟨[(1, [6]), (0, [0, 1, 2])], [], [], [], [], [], [], [], [], []⟩
def f_lease_within : Abs.Fn := ⟨3, [.t 6],
  (.seq (.reg [0, 1, 2] f_lease_within_r0) (.seq (.reg [6] f_lease_within_r1) .ret))⟩

theorem e_lease_within_r0 : type_of% f_lease_within_r0.eq_1 := by_rfl f_lease_within_r0.eq_1
theorem e_lease_within_r1 : type_of% f_lease_within_r1.eq_1 := by_rfl f_lease_within_r1.eq_1
theorem e_lease_within : type_of% f_lease_within.eq_1 := by_rfl f_lease_within.eq_1
theorem ok_lease_within : fnC Tryz.prog a_lease_within Tryz.f63 = some f_lease_within := by kernel_rfl

/-! 64 fumarole/lease.springs -/
def f_lease_springs_r0 : List Abs.Op := [
  ⟨some 1, none, false, .boxi (.t 0)⟩,
  ⟨some 2, none, false, .mv (.c (.bool false))⟩]

def f_lease_springs_r1 : List Abs.Op := [
  ⟨some 3, none, false, .ld false 1 (.t 1)⟩,
  ⟨some 4, none, false, .lenS (.t 3)⟩,
  ⟨some 5, none, false, .call false (.c (.fn i_lease_within [] [])) [(.t 4), (.c (.int .i64 1)), (.c (.int .i64 10))]⟩,
  ⟨some 6, none, false, .un .not (.t 5)⟩,
  ⟨some 7, none, false, .mv (.t 6)⟩,
  ⟨some 8, some (7, false), false, .ld false 1 (.t 1)⟩,
  ⟨some 9, some (7, false), false, .idxS 3 (.t 8) (.c (.int .i64 0))⟩,
  ⟨some 10, some (7, false), false, .fadr 2 (.t 9)⟩,
  ⟨some 11, some (7, false), false, .ld false 1 (.t 10)⟩,
  ⟨some 12, some (7, false), false, .lenS (.t 11)⟩,
  ⟨some 13, some (7, false), false, .call false (.c (.fn i_lease_within [] [])) [(.t 12), (.c (.int .i64 1)), (.c (.int .i64 20))]⟩,
  ⟨some 14, some (7, false), false, .un .not (.t 13)⟩,
  ⟨some 15, none, false, .pick (.t 7) (.c (.bool true)) (.t 14)⟩]

def f_lease_springs_r2 : List Abs.Op := [
  ⟨some 2, none, false, .mv (.c (.bool false))⟩]

def f_lease_springs_r3 : List Abs.Op := [
  ⟨some 16, none, false, .ld false 1 (.t 1)⟩,
  ⟨some 17, none, false, .mkf i_lease_springs_1 [] [(.t 1)]⟩,
  ⟨some 18, none, false, .call false (.c (.fn i_lease_all_lease_Spring [] [])) [(.t 16), (.t 17)]⟩,
  ⟨some 2, none, false, .mv (.t 18)⟩]

def a_lease_springs : Ann := ⟨[(3, [2]), (2, [2]), (1, [1, 15]), (0, [1])], [], [], [], [], [], [], [], [], []⟩
def f_lease_springs : Abs.Fn := ⟨1, [.t 2],
  (.seq (.reg [1] f_lease_springs_r0) (.seq (.seq (.reg [1, 15] f_lease_springs_r1) (.ite (.t 15) (.seq (.reg [2] f_lease_springs_r2) .ret) .nop)) (.seq (.reg [2] f_lease_springs_r3) .ret)))⟩

theorem e_lease_springs_r0 : type_of% f_lease_springs_r0.eq_1 := by_rfl f_lease_springs_r0.eq_1
theorem e_lease_springs_r1 : type_of% f_lease_springs_r1.eq_1 := by_rfl f_lease_springs_r1.eq_1
theorem e_lease_springs_r2 : type_of% f_lease_springs_r2.eq_1 := by_rfl f_lease_springs_r2.eq_1
theorem e_lease_springs_r3 : type_of% f_lease_springs_r3.eq_1 := by_rfl f_lease_springs_r3.eq_1
theorem e_lease_springs : type_of% f_lease_springs.eq_1 := by_rfl f_lease_springs.eq_1
theorem ok_lease_springs : fnC Tryz.prog a_lease_springs Tryz.f64 = some f_lease_springs := by kernel_rfl

/-! 65 (fumarole/lease.Concession).valid -/
def f_lease_Concession_valid_r0 : List Abs.Op := [
  ⟨some 1, none, false, .boxi (.t 0)⟩,
  ⟨some 2, none, false, .mv (.c (.bool false))⟩]

def f_lease_Concession_valid_r1 : List Abs.Op := [
  ⟨some 3, none, false, .fadr 0 (.t 1)⟩,
  ⟨some 4, none, false, .ld false 1 (.t 3)⟩,
  ⟨some 5, none, false, .call false (.c (.fn i_lease_within [] [])) [(.t 4), (.c (.int .i64 1)), (.c (.int .i64 8))]⟩,
  ⟨some 6, none, false, .mv (.t 5)⟩,
  ⟨some 7, some (6, true), false, .fadr 1 (.t 1)⟩,
  ⟨some 8, some (6, true), false, .ld false 1 (.t 7)⟩,
  ⟨some 9, some (6, true), false, .lenS (.t 8)⟩,
  ⟨some 10, some (6, true), false, .call false (.c (.fn i_lease_within [] [])) [(.t 9), (.c (.int .i64 1)), (.c (.int .i64 20))]⟩,
  ⟨some 11, none, false, .pick (.t 6) (.t 10) (.c (.bool false))⟩,
  ⟨some 12, none, false, .mv (.t 11)⟩,
  ⟨some 13, some (12, true), false, .fadr 1 (.t 1)⟩,
  ⟨some 14, some (12, true), false, .ld false 1 (.t 13)⟩,
  ⟨some 15, some (12, true), false, .mkf i_lease_Concession_valid_1 [] [(.t 1)]⟩,
  ⟨some 16, some (12, true), false, .call false (.c (.fn i_lease_all_L_int [] [])) [(.t 14), (.t 15)]⟩,
  ⟨some 17, none, false, .pick (.t 12) (.t 16) (.c (.bool false))⟩,
  ⟨some 2, none, false, .mv (.t 17)⟩]

def a_lease_Concession_valid : Ann := ⟨[(1, [2]), (0, [1])], [], [], [], [], [], [], [], [], []⟩
def f_lease_Concession_valid : Abs.Fn := ⟨1, [.t 2],
  (.seq (.reg [1] f_lease_Concession_valid_r0) (.seq (.reg [2] f_lease_Concession_valid_r1) .ret))⟩

theorem e_lease_Concession_valid_r0 : type_of% f_lease_Concession_valid_r0.eq_1 := by_rfl f_lease_Concession_valid_r0.eq_1
theorem e_lease_Concession_valid_r1 : type_of% f_lease_Concession_valid_r1.eq_1 := by_rfl f_lease_Concession_valid_r1.eq_1
theorem e_lease_Concession_valid : type_of% f_lease_Concession_valid.eq_1 := by_rfl f_lease_Concession_valid.eq_1
theorem ok_lease_Concession_valid : fnC Tryz.prog a_lease_Concession_valid Tryz.f65 = some f_lease_Concession_valid := by kernel_rfl

/-! 66 (fumarole/lease.Concession).masses -/
def f_lease_Concession_masses_r0 : List Abs.Op := [
  ⟨some 2, none, false, .boxi (.t 0)⟩,
  ⟨some 4, none, false, .mv (.c (.bool false))⟩]

def f_lease_Concession_masses_r1 : List Abs.Op := [
  ⟨some 5, none, false, .mv (.t 1)⟩,
  ⟨some 6, none, false, .lenS (.t 5)⟩,
  ⟨some 7, none, false, .fadr 1 (.t 2)⟩,
  ⟨some 8, none, false, .ld false 1 (.t 7)⟩,
  ⟨some 9, none, false, .lenS (.t 8)⟩,
  ⟨some 10, none, false, .bin .eql (.t 6) (.t 9)⟩,
  ⟨some 11, none, false, .mv (.t 10)⟩,
  ⟨some 12, some (11, true), false, .mv (.t 1)⟩,
  ⟨some 13, some (11, true), false, .call false (.c (.fn i_lease_all_int [] [])) [(.t 12), (.c (.fn i_lease_total [] []))]⟩,
  ⟨some 14, none, false, .pick (.t 11) (.t 13) (.c (.bool false))⟩,
  ⟨some 4, none, false, .mv (.t 14)⟩]

def a_lease_Concession_masses : Ann := ⟨[(1, [4]), (0, [1, 2])], [], [], [], [], [], [], [], [], []⟩
def f_lease_Concession_masses : Abs.Fn := ⟨2, [.t 4],
  (.seq (.reg [1, 2] f_lease_Concession_masses_r0) (.seq (.reg [4] f_lease_Concession_masses_r1) .ret))⟩

theorem e_lease_Concession_masses_r0 : type_of% f_lease_Concession_masses_r0.eq_1 := by_rfl f_lease_Concession_masses_r0.eq_1
theorem e_lease_Concession_masses_r1 : type_of% f_lease_Concession_masses_r1.eq_1 := by_rfl f_lease_Concession_masses_r1.eq_1
theorem e_lease_Concession_masses : type_of% f_lease_Concession_masses.eq_1 := by_rfl f_lease_Concession_masses.eq_1
theorem ok_lease_Concession_masses : fnC Tryz.prog a_lease_Concession_masses Tryz.f66 = some f_lease_Concession_masses := by kernel_rfl

/-! 67 (fumarole/lease.Concession).due -/
def f_lease_Concession_due_r0 : List Abs.Op := [
  ⟨some 2, none, false, .boxi (.t 0)⟩,
  ⟨some 4, none, false, .nilb 1⟩,
  ⟨some 5, none, false, .mv (.c (.int .i64 0))⟩]

def f_lease_Concession_due_r1 : List Abs.Op := [
  ⟨some 11, none, false, .mv (.t 1)⟩,
  ⟨some 12, none, false, .call false (.c (.fn i_lease_sum [] [])) [(.t 11)]⟩,
  ⟨some 5, none, false, .mv (.t 12)⟩]

def f_lease_Concession_due_r2 : List Abs.Op := [
  ⟨some 13, none, false, .fadr 0 (.t 2)⟩,
  ⟨some 14, none, false, .ld false 1 (.t 13)⟩,
  ⟨some 15, none, false, .mv (.c (.int .i64 0))⟩]

def f_lease_Concession_due_r3 : List Abs.Op := [
  ⟨some 16, none, false, .bin .lss (.t 15) (.t 14)⟩]

def f_lease_Concession_due_r4 : List Abs.Op := [
  ⟨some 17, none, false, .mv (.t 15)⟩,
  ⟨some 6, none, false, .mv (.t 17)⟩]

def f_lease_Concession_due_r5 : List Abs.Op := [
  ⟨some 7, none, false, .mv (.c (.int .i64 0))⟩,
  ⟨some 8, none, false, .mv (.c (.int .i64 0))⟩]

def f_lease_Concession_due_r6 : List Abs.Op := [
  ⟨some 18, none, false, .mv (.t 1)⟩,
  ⟨some 19, none, false, .lenS (.t 18)⟩,
  ⟨some 20, none, false, .mv (.c (.int .i64 0))⟩]

def f_lease_Concession_due_r7 : List Abs.Op := [
  ⟨some 21, none, false, .bin .lss (.t 20) (.t 19)⟩]

def f_lease_Concession_due_r8 : List Abs.Op := [
  ⟨some 22, none, false, .mv (.t 20)⟩,
  ⟨some 23, none, false, .idxS 1 (.t 18) (.t 20)⟩,
  ⟨some 24, none, false, .ld false 1 (.t 23)⟩,
  ⟨some 9, none, false, .mv (.t 22)⟩,
  ⟨some 10, none, false, .mv (.t 24)⟩]

def f_lease_Concession_due_r9 : List Abs.Op := [
  ⟨some 25, none, false, .mv (.t 7)⟩,
  ⟨some 26, none, false, .mv (.t 10)⟩,
  ⟨some 27, none, false, .bin .quo (.t 26) (.c (.int .i64 1000))⟩,
  ⟨some 28, none, false, .fadr 1 (.t 2)⟩,
  ⟨some 29, none, false, .ld false 1 (.t 28)⟩,
  ⟨some 30, none, false, .mv (.t 9)⟩,
  ⟨some 31, none, false, .idxS 1 (.t 29) (.t 30)⟩,
  ⟨some 32, none, false, .ld false 1 (.t 31)⟩,
  ⟨some 33, none, false, .mv (.t 6)⟩,
  ⟨some 34, none, false, .idxS 1 (.t 32) (.t 33)⟩,
  ⟨some 35, none, false, .ld false 1 (.t 34)⟩,
  ⟨some 36, none, false, .bin .mul (.t 27) (.t 35)⟩,
  ⟨some 37, none, false, .bin .add (.t 25) (.t 36)⟩,
  ⟨some 7, none, false, .mv (.t 37)⟩]

def f_lease_Concession_due_r10 : List Abs.Op := [
  ⟨some 38, none, false, .mv (.t 8)⟩,
  ⟨some 39, none, false, .mv (.t 10)⟩,
  ⟨some 40, none, false, .bin .rem (.t 39) (.c (.int .i64 1000))⟩,
  ⟨some 41, none, false, .fadr 1 (.t 2)⟩,
  ⟨some 42, none, false, .ld false 1 (.t 41)⟩,
  ⟨some 43, none, false, .mv (.t 9)⟩,
  ⟨some 44, none, false, .idxS 1 (.t 42) (.t 43)⟩,
  ⟨some 45, none, false, .ld false 1 (.t 44)⟩,
  ⟨some 46, none, false, .mv (.t 6)⟩,
  ⟨some 47, none, false, .idxS 1 (.t 45) (.t 46)⟩,
  ⟨some 48, none, false, .ld false 1 (.t 47)⟩,
  ⟨some 49, none, false, .bin .mul (.t 40) (.t 48)⟩,
  ⟨some 50, none, false, .bin .add (.t 38) (.t 49)⟩,
  ⟨some 8, none, false, .mv (.t 50)⟩]

def f_lease_Concession_due_r11 : List Abs.Op := [
  ⟨some 51, none, false, .bin .add (.t 20) (.c (.int .i64 1))⟩,
  ⟨some 20, none, false, .mv (.t 51)⟩]

def f_lease_Concession_due_l12 : Abs.Cmd :=
  (.seq (.reg [1, 2, 4, 5, 6, 7, 8, 14, 15, 18, 19, 20, 21] f_lease_Concession_due_r7) (.seq (.ite (.t 21) .nop (.exit 2)) (.seq (.blk 3 (.seq (.reg [1, 2, 4, 5, 6, 7, 8, 9, 10, 14, 15, 18, 19, 20] f_lease_Concession_due_r8) (.seq (.reg [1, 2, 4, 5, 6, 7, 8, 9, 10, 14, 15, 18, 19, 20] f_lease_Concession_due_r9) (.reg [1, 2, 4, 5, 6, 7, 8, 14, 15, 18, 19, 20] f_lease_Concession_due_r10)))) (.reg [1, 2, 4, 5, 6, 7, 8, 14, 15, 18, 19, 20] f_lease_Concession_due_r11))))

def f_lease_Concession_due_r13 : List Abs.Op := [
  ⟨some 52, none, false, .mv (.t 4)⟩,
  ⟨some 53, none, false, .mv (.t 7)⟩,
  ⟨some 54, none, false, .mv (.t 8)⟩,
  ⟨some 55, none, false, .bin .quo (.t 54) (.c (.int .i64 1000))⟩,
  ⟨some 56, none, false, .bin .add (.t 53) (.t 55)⟩,
  ⟨some 57, none, false, .bsi 1 1 [(.int .i64 0)] [(0, 1, (.t 56))]⟩,
  ⟨some 58, none, false, .app 1 8 (.t 52) (.t 57)⟩,
  ⟨some 4, none, false, .mv (.t 58)⟩]

def f_lease_Concession_due_r14 : List Abs.Op := [
  ⟨some 59, none, false, .mv (.t 5)⟩,
  ⟨some 60, none, false, .mv (.t 4)⟩,
  ⟨some 61, none, false, .mv (.t 6)⟩,
  ⟨some 62, none, false, .idxS 1 (.t 60) (.t 61)⟩,
  ⟨some 63, none, false, .ld false 1 (.t 62)⟩,
  ⟨some 64, none, false, .bin .sub (.t 59) (.t 63)⟩,
  ⟨some 5, none, false, .mv (.t 64)⟩]

def f_lease_Concession_due_r15 : List Abs.Op := [
  ⟨some 65, none, false, .bin .add (.t 15) (.c (.int .i64 1))⟩,
  ⟨some 15, none, false, .mv (.t 65)⟩]

def f_lease_Concession_due_l16 : Abs.Cmd :=
  (.seq (.reg [1, 2, 4, 5, 14, 15, 16] f_lease_Concession_due_r3) (.seq (.ite (.t 16) .nop (.exit 0)) (.seq (.blk 1 (.seq (.reg [1, 2, 4, 5, 6, 14, 15] f_lease_Concession_due_r4) (.seq (.reg [1, 2, 4, 5, 6, 7, 8, 14, 15] f_lease_Concession_due_r5) (.seq (.seq (.reg [1, 2, 4, 5, 6, 7, 8, 14, 15, 18, 19, 20] f_lease_Concession_due_r6) (.blk 2 (.loop [1, 2, 4, 5, 6, 7, 8, 14, 15, 18, 19, 20] false f_lease_Concession_due_l12))) (.seq (.reg [1, 2, 4, 5, 6, 14, 15] f_lease_Concession_due_r13) (.reg [1, 2, 4, 5, 14, 15] f_lease_Concession_due_r14)))))) (.reg [1, 2, 4, 5, 14, 15] f_lease_Concession_due_r15))))

def f_lease_Concession_due_r17 : List Abs.Op := [
  ⟨some 66, none, false, .mv (.t 4)⟩,
  ⟨some 67, none, false, .mv (.t 5)⟩,
  ⟨some 4, none, false, .mv (.t 66)⟩,
  ⟨some 5, none, false, .mv (.t 67)⟩]

def a_lease_Concession_due : Ann := ⟨[(15, [4, 5]), (14, [1, 2, 4, 5, 14, 15]), (13, [1, 2, 4, 5, 14, 15]), (12, [1, 2, 4, 5, 6, 14, 15]), (11, [1, 2, 4, 5, 6, 7, 8, 14, 15, 18, 19, 20]), (10, [1, 2, 4, 5, 6, 7, 8, 14, 15, 18, 19, 20]), (9, [1, 2, 4, 5, 6, 7, 8, 9, 10, 14, 15, 18, 19, 20]), (8, [1, 2, 4, 5, 6, 7, 8, 9, 10, 14, 15, 18, 19, 20]), (7, [1, 2, 4, 5, 6, 7, 8, 14, 15, 18, 19, 20, 21]), (6, [1, 2, 4, 5, 6, 7, 8, 14, 15, 18, 19, 20]), (5, [1, 2, 4, 5, 6, 7, 8, 14, 15]), (4, [1, 2, 4, 5, 6, 14, 15]), (3, [1, 2, 4, 5, 14, 15, 16]), (2, [1, 2, 4, 5, 14, 15]), (1, [1, 2, 4, 5]), (0, [1, 2, 4])], [(2, [1, 2, 4, 5, 6, 7, 8, 14, 15, 18, 19, 20]), (0, [1, 2, 4, 5, 14, 15])], [], [4], [], [], [], [], [], []⟩
def f_lease_Concession_due : Abs.Fn := ⟨2, [.t 4, .t 5],
  (.seq (.reg [1, 2, 4] f_lease_Concession_due_r0) (.seq (.reg [1, 2, 4, 5] f_lease_Concession_due_r1) (.seq (.seq (.reg [1, 2, 4, 5, 14, 15] f_lease_Concession_due_r2) (.blk 0 (.loop [1, 2, 4, 5, 14, 15] false f_lease_Concession_due_l16))) (.seq (.reg [4, 5] f_lease_Concession_due_r17) .ret))))⟩

theorem e_lease_Concession_due_r0 : type_of% f_lease_Concession_due_r0.eq_1 := by_rfl f_lease_Concession_due_r0.eq_1
theorem e_lease_Concession_due_r1 : type_of% f_lease_Concession_due_r1.eq_1 := by_rfl f_lease_Concession_due_r1.eq_1
theorem e_lease_Concession_due_r2 : type_of% f_lease_Concession_due_r2.eq_1 := by_rfl f_lease_Concession_due_r2.eq_1
theorem e_lease_Concession_due_r3 : type_of% f_lease_Concession_due_r3.eq_1 := by_rfl f_lease_Concession_due_r3.eq_1
theorem e_lease_Concession_due_r4 : type_of% f_lease_Concession_due_r4.eq_1 := by_rfl f_lease_Concession_due_r4.eq_1
theorem e_lease_Concession_due_r5 : type_of% f_lease_Concession_due_r5.eq_1 := by_rfl f_lease_Concession_due_r5.eq_1
theorem e_lease_Concession_due_r6 : type_of% f_lease_Concession_due_r6.eq_1 := by_rfl f_lease_Concession_due_r6.eq_1
theorem e_lease_Concession_due_r7 : type_of% f_lease_Concession_due_r7.eq_1 := by_rfl f_lease_Concession_due_r7.eq_1
theorem e_lease_Concession_due_r8 : type_of% f_lease_Concession_due_r8.eq_1 := by_rfl f_lease_Concession_due_r8.eq_1
theorem e_lease_Concession_due_r9 : type_of% f_lease_Concession_due_r9.eq_1 := by_rfl f_lease_Concession_due_r9.eq_1
theorem e_lease_Concession_due_r10 : type_of% f_lease_Concession_due_r10.eq_1 := by_rfl f_lease_Concession_due_r10.eq_1
theorem e_lease_Concession_due_r11 : type_of% f_lease_Concession_due_r11.eq_1 := by_rfl f_lease_Concession_due_r11.eq_1
theorem e_lease_Concession_due_l12 : type_of% f_lease_Concession_due_l12.eq_1 := by_rfl f_lease_Concession_due_l12.eq_1
theorem e_lease_Concession_due_r13 : type_of% f_lease_Concession_due_r13.eq_1 := by_rfl f_lease_Concession_due_r13.eq_1
theorem e_lease_Concession_due_r14 : type_of% f_lease_Concession_due_r14.eq_1 := by_rfl f_lease_Concession_due_r14.eq_1
theorem e_lease_Concession_due_r15 : type_of% f_lease_Concession_due_r15.eq_1 := by_rfl f_lease_Concession_due_r15.eq_1
theorem e_lease_Concession_due_l16 : type_of% f_lease_Concession_due_l16.eq_1 := by_rfl f_lease_Concession_due_l16.eq_1
theorem e_lease_Concession_due_r17 : type_of% f_lease_Concession_due_r17.eq_1 := by_rfl f_lease_Concession_due_r17.eq_1
theorem e_lease_Concession_due : type_of% f_lease_Concession_due.eq_1 := by_rfl f_lease_Concession_due.eq_1
theorem ok_lease_Concession_due : fnC Tryz.prog a_lease_Concession_due Tryz.f67 = some f_lease_Concession_due := by kernel_rfl

/-! 69 (fumarole/lease.Programme).planned -/
def f_lease_Programme_planned_r0 : List Abs.Op := [
  ⟨some 2, none, false, .boxi (.t 0)⟩,
  ⟨some 4, none, false, .mv (.c (.bool false))⟩]

def f_lease_Programme_planned_r1 : List Abs.Op := [
  ⟨some 5, none, false, .mv (.t 1)⟩,
  ⟨some 6, none, false, .lenS (.t 5)⟩,
  ⟨some 7, none, false, .fadr 4 (.t 2)⟩,
  ⟨some 8, none, false, .ld false 1 (.t 7)⟩,
  ⟨some 9, none, false, .lenS (.t 8)⟩,
  ⟨some 10, none, false, .bin .eql (.t 6) (.t 9)⟩,
  ⟨some 11, none, false, .mv (.t 10)⟩,
  ⟨some 12, some (11, true), false, .mv (.t 1)⟩,
  ⟨some 13, some (11, true), false, .mkf i_lease_Programme_planned_1 [] [(.t 2)]⟩,
  ⟨some 14, some (11, true), false, .call false (.c (.fn i_lease_all_int [] [])) [(.t 12), (.t 13)]⟩,
  ⟨some 15, none, false, .pick (.t 11) (.t 14) (.c (.bool false))⟩,
  ⟨some 4, none, false, .mv (.t 15)⟩]

def a_lease_Programme_planned : Ann := ⟨[(1, [4]), (0, [1, 2])], [], [], [], [], [], [], [], [], []⟩
def f_lease_Programme_planned : Abs.Fn := ⟨2, [.t 4],
  (.seq (.reg [1, 2] f_lease_Programme_planned_r0) (.seq (.reg [4] f_lease_Programme_planned_r1) .ret))⟩

theorem e_lease_Programme_planned_r0 : type_of% f_lease_Programme_planned_r0.eq_1 := by_rfl f_lease_Programme_planned_r0.eq_1
theorem e_lease_Programme_planned_r1 : type_of% f_lease_Programme_planned_r1.eq_1 := by_rfl f_lease_Programme_planned_r1.eq_1
theorem e_lease_Programme_planned : type_of% f_lease_Programme_planned.eq_1 := by_rfl f_lease_Programme_planned.eq_1
theorem ok_lease_Programme_planned : fnC Tryz.prog a_lease_Programme_planned Tryz.f69 = some f_lease_Programme_planned := by kernel_rfl

/-! 70 fumarole/lease.all[[]fumarole/lease.Rung] -/
def f_lease_all_L_lease_Rung_r0 : List Abs.Op := [
  ⟨some 3, none, false, .boxi (.t 1)⟩,
  ⟨some 4, none, false, .mv (.c (.bool false))⟩]

def f_lease_all_L_lease_Rung_r1 : List Abs.Op := [
  ⟨some 5, none, false, .mv (.t 0)⟩,
  ⟨some 6, none, false, .mkf i_lease_all_L_lease_Rung_1 [] [(.t 3)]⟩,
  ⟨some 7, none, false, .call false (.c (.fn i_slices_ContainsFunc_L_lease_Rung [] [])) [(.t 5), (.t 6)]⟩,
  ⟨some 8, none, false, .un .not (.t 7)⟩,
  ⟨some 4, none, false, .mv (.t 8)⟩]

def a_lease_all_L_lease_Rung : Ann := ⟨[(1, [4]), (0, [0, 3])], [], [], [], [], [], [], [], [], []⟩
def f_lease_all_L_lease_Rung : Abs.Fn := ⟨2, [.t 4],
  (.seq (.reg [0, 3] f_lease_all_L_lease_Rung_r0) (.seq (.reg [4] f_lease_all_L_lease_Rung_r1) .ret))⟩

theorem e_lease_all_L_lease_Rung_r0 : type_of% f_lease_all_L_lease_Rung_r0.eq_1 := by_rfl f_lease_all_L_lease_Rung_r0.eq_1
theorem e_lease_all_L_lease_Rung_r1 : type_of% f_lease_all_L_lease_Rung_r1.eq_1 := by_rfl f_lease_all_L_lease_Rung_r1.eq_1
theorem e_lease_all_L_lease_Rung : type_of% f_lease_all_L_lease_Rung.eq_1 := by_rfl f_lease_all_L_lease_Rung.eq_1
theorem ok_lease_all_L_lease_Rung : fnC Tryz.prog a_lease_all_L_lease_Rung Tryz.f70 = some f_lease_all_L_lease_Rung := by kernel_rfl

/-! 71 fumarole/lease.ProveDrill$1 -/
def f_lease_ProveDrill_1_r0 : List Abs.Op := [
  ⟨some 2, none, false, .mv (.c (.bool false))⟩]

def f_lease_ProveDrill_1_r1 : List Abs.Op := [
  ⟨some 3, none, false, .mv (.t 0)⟩,
  ⟨some 4, none, false, .call false (.c (.fn i_lease_ladder_right [] [])) [(.t 3)]⟩,
  ⟨some 2, none, false, .mv (.t 4)⟩]

def a_lease_ProveDrill_1 : Ann := ⟨[(1, [2]), (0, [0])], [], [], [], [], [], [], [], [], []⟩
def f_lease_ProveDrill_1 : Abs.Fn := ⟨1, [.t 2],
  (.seq (.reg [0] f_lease_ProveDrill_1_r0) (.seq (.reg [2] f_lease_ProveDrill_1_r1) .ret))⟩

theorem e_lease_ProveDrill_1_r0 : type_of% f_lease_ProveDrill_1_r0.eq_1 := by_rfl f_lease_ProveDrill_1_r0.eq_1
theorem e_lease_ProveDrill_1_r1 : type_of% f_lease_ProveDrill_1_r1.eq_1 := by_rfl f_lease_ProveDrill_1_r1.eq_1
theorem e_lease_ProveDrill_1 : type_of% f_lease_ProveDrill_1.eq_1 := by_rfl f_lease_ProveDrill_1.eq_1
theorem ok_lease_ProveDrill_1 : fnC Tryz.prog a_lease_ProveDrill_1 Tryz.f71 = some f_lease_ProveDrill_1 := by kernel_rfl

/-! 72 (fumarole/lease.ladder).right -/
def f_lease_ladder_right_r0 : List Abs.Op := [
  ⟨some 2, none, false, .mv (.c (.bool false))⟩]

def f_lease_ladder_right_r1 : List Abs.Op := [
  ⟨some 5, none, false, .mv (.t 0)⟩,
  ⟨some 6, none, false, .lenS (.t 5)⟩,
  ⟨some 7, none, false, .mv (.c (.int .i64 0))⟩]

def f_lease_ladder_right_r2 : List Abs.Op := [
  ⟨some 8, none, false, .bin .lss (.t 7) (.t 6)⟩]

def f_lease_ladder_right_r3 : List Abs.Op := [
  ⟨some 9, none, false, .mv (.t 7)⟩,
  ⟨some 10, none, false, .idxS 2 (.t 5) (.t 7)⟩,
  ⟨some 11, none, false, .ld true 2 (.t 10)⟩,
  ⟨some 4, none, false, .alcv [] [(.int .i64 0), (.int .i64 0)]⟩,
  ⟨some 3, none, false, .mv (.t 9)⟩,
  ⟨none, none, false, .stv 4 [] 2 4 (.t 11)⟩]

def f_lease_ladder_right_r4 : List Abs.Op := [
  ⟨some 12, none, true, .fadr 1 (.t 4)⟩,
  ⟨some 13, none, true, .ldv 4 false 1 12⟩,
  ⟨some 14, none, true, .call false (.c (.fn i_lease_within [] [])) [(.t 13), (.c (.int .i64 0)), (.c (.int .i64 1000000000000))]⟩,
  ⟨some 15, none, true, .un .not (.t 14)⟩,
  ⟨some 16, none, true, .mv (.t 15)⟩,
  ⟨some 17, some (16, false), true, .mv (.t 3)⟩,
  ⟨some 18, some (16, false), true, .bin .gtr (.t 17) (.c (.int .i64 0))⟩,
  ⟨some 19, some (16, false), true, .mv (.t 18)⟩,
  ⟨some 20, some (19, true), true, .fadr 0 (.t 4)⟩,
  ⟨some 21, some (19, true), true, .ldv 4 false 1 20⟩,
  ⟨some 22, some (19, true), true, .mv (.t 0)⟩,
  ⟨some 23, some (19, true), true, .mv (.t 3)⟩,
  ⟨some 24, some (19, true), true, .bin .sub (.t 23) (.c (.int .i64 1))⟩,
  ⟨some 25, some (19, true), true, .idxS 2 (.t 22) (.t 24)⟩,
  ⟨some 26, some (19, true), true, .fadr 0 (.t 25)⟩,
  ⟨some 27, some (19, true), true, .ld false 1 (.t 26)⟩,
  ⟨some 28, some (19, true), true, .bin .leq (.t 21) (.t 27)⟩,
  ⟨some 29, some (19, true), true, .mv (.t 28)⟩,
  ⟨some 30, some (29, false), true, .fadr 1 (.t 4)⟩,
  ⟨some 31, some (29, false), true, .ldv 4 false 1 30⟩,
  ⟨some 32, some (29, false), true, .mv (.t 0)⟩,
  ⟨some 33, some (29, false), true, .mv (.t 3)⟩,
  ⟨some 34, some (29, false), true, .bin .sub (.t 33) (.c (.int .i64 1))⟩,
  ⟨some 35, some (29, false), true, .idxS 2 (.t 32) (.t 34)⟩,
  ⟨some 36, some (29, false), true, .fadr 1 (.t 35)⟩,
  ⟨some 37, some (29, false), true, .ld false 1 (.t 36)⟩,
  ⟨some 38, some (29, false), false, .bin .geq (.t 31) (.t 37)⟩,
  ⟨some 39, some (19, true), false, .pick (.t 29) (.c (.bool true)) (.t 38)⟩,
  ⟨some 40, some (16, false), false, .pick (.t 19) (.t 39) (.c (.bool false))⟩,
  ⟨some 41, none, false, .pick (.t 16) (.c (.bool true)) (.t 40)⟩]

def f_lease_ladder_right_r5 : List Abs.Op := [
  ⟨some 2, none, false, .mv (.c (.bool false))⟩]

def f_lease_ladder_right_r6 : List Abs.Op := [
  ⟨some 42, none, false, .bin .add (.t 7) (.c (.int .i64 1))⟩,
  ⟨some 7, none, false, .mv (.t 42)⟩]

def f_lease_ladder_right_l7 : Abs.Cmd :=
  (.seq (.reg [0, 5, 6, 7, 8] f_lease_ladder_right_r2) (.seq (.ite (.t 8) .nop (.exit 0)) (.seq (.blk 1 (.seq (.reg [0, 3, 4, 5, 6, 7] f_lease_ladder_right_r3) (.seq (.reg [0, 5, 6, 7, 41] f_lease_ladder_right_r4) (.ite (.t 41) (.seq (.reg [2] f_lease_ladder_right_r5) .ret) .nop)))) (.reg [0, 5, 6, 7] f_lease_ladder_right_r6))))

def f_lease_ladder_right_r8 : List Abs.Op := [
  ⟨some 43, none, false, .mv (.t 0)⟩,
  ⟨some 44, none, false, .lenS (.t 43)⟩,
  ⟨some 45, none, false, .call false (.c (.fn i_lease_within [] [])) [(.t 44), (.c (.int .i64 1)), (.c (.int .i64 70000))]⟩,
  ⟨some 46, none, false, .mv (.t 45)⟩,
  ⟨some 47, some (46, true), false, .mv (.t 0)⟩,
  ⟨some 48, some (46, true), false, .idxS 2 (.t 47) (.c (.int .i64 0))⟩,
  ⟨some 49, some (46, true), false, .fadr 0 (.t 48)⟩,
  ⟨some 50, some (46, true), false, .ld false 1 (.t 49)⟩,
  ⟨some 51, some (46, true), false, .bin .geq (.t 50) (.c (.int .i64 0))⟩,
  ⟨some 52, none, false, .pick (.t 46) (.t 51) (.c (.bool false))⟩,
  ⟨some 53, none, false, .mv (.t 52)⟩,
  ⟨some 54, some (53, true), false, .mv (.t 0)⟩,
  ⟨some 55, some (53, true), false, .mv (.t 0)⟩,
  ⟨some 56, some (53, true), false, .lenS (.t 55)⟩,
  ⟨some 57, some (53, true), false, .bin .sub (.t 56) (.c (.int .i64 1))⟩,
  ⟨some 58, some (53, true), false, .idxS 2 (.t 54) (.t 57)⟩,
  ⟨some 59, some (53, true), false, .fadr 0 (.t 58)⟩,
  ⟨some 60, some (53, true), false, .ld false 1 (.t 59)⟩,
  ⟨some 61, some (53, true), false, .bin .eql (.t 60) (.c (.int .i64 100000000))⟩,
  ⟨some 62, none, false, .pick (.t 53) (.t 61) (.c (.bool false))⟩,
  ⟨some 2, none, false, .mv (.t 62)⟩]

def a_lease_ladder_right : Ann := ⟨[(7, [2]), (6, [0, 5, 6, 7]), (5, [2]), (4, [0, 5, 6, 7, 41]), (3, [0, 3, 4, 5, 6, 7]), (2, [0, 5, 6, 7, 8]), (1, [0, 5, 6, 7]), (0, [0])], [(0, [0, 5, 6, 7])], [], [4], [4], [], [], [], [], []⟩
def f_lease_ladder_right : Abs.Fn := ⟨1, [.t 2],
  (.seq (.reg [0] f_lease_ladder_right_r0) (.seq (.seq (.reg [0, 5, 6, 7] f_lease_ladder_right_r1) (.blk 0 (.loop [0, 5, 6, 7] false f_lease_ladder_right_l7))) (.seq (.reg [2] f_lease_ladder_right_r8) .ret)))⟩

theorem e_lease_ladder_right_r0 : type_of% f_lease_ladder_right_r0.eq_1 := by_rfl f_lease_ladder_right_r0.eq_1
theorem e_lease_ladder_right_r1 : type_of% f_lease_ladder_right_r1.eq_1 := by_rfl f_lease_ladder_right_r1.eq_1
theorem e_lease_ladder_right_r2 : type_of% f_lease_ladder_right_r2.eq_1 := by_rfl f_lease_ladder_right_r2.eq_1
theorem e_lease_ladder_right_r3 : type_of% f_lease_ladder_right_r3.eq_1 := by_rfl f_lease_ladder_right_r3.eq_1
theorem e_lease_ladder_right_r4 : type_of% f_lease_ladder_right_r4.eq_1 := by_rfl f_lease_ladder_right_r4.eq_1
theorem e_lease_ladder_right_r5 : type_of% f_lease_ladder_right_r5.eq_1 := by_rfl f_lease_ladder_right_r5.eq_1
theorem e_lease_ladder_right_r6 : type_of% f_lease_ladder_right_r6.eq_1 := by_rfl f_lease_ladder_right_r6.eq_1
theorem e_lease_ladder_right_l7 : type_of% f_lease_ladder_right_l7.eq_1 := by_rfl f_lease_ladder_right_l7.eq_1
theorem e_lease_ladder_right_r8 : type_of% f_lease_ladder_right_r8.eq_1 := by_rfl f_lease_ladder_right_r8.eq_1
theorem e_lease_ladder_right : type_of% f_lease_ladder_right.eq_1 := by_rfl f_lease_ladder_right.eq_1
theorem ok_lease_ladder_right : fnC Tryz.prog a_lease_ladder_right Tryz.f72 = some f_lease_ladder_right := by kernel_rfl

/-! 73 (fumarole/lease.Programme).follow -/
def f_lease_Programme_follow_r0 : List Abs.Op := [
  ⟨some 3, none, false, .boxi (.t 0)⟩,
  ⟨some 6, none, false, .mv (.c (.int .i64 0))⟩,
  ⟨some 7, none, false, .mv (.c (.bool false))⟩]

def f_lease_Programme_follow_r1 : List Abs.Op := [
  ⟨some 12, none, false, .fadr 0 (.t 3)⟩,
  ⟨some 13, none, false, .ld false 1 (.t 12)⟩,
  ⟨some 8, none, false, .mv (.t 13)⟩]

def f_lease_Programme_follow_r2 : List Abs.Op := [
  ⟨some 14, none, false, .mv (.t 1)⟩,
  ⟨some 15, none, false, .lenS (.t 14)⟩,
  ⟨some 16, none, false, .mv (.c (.int .i64 0))⟩]

def f_lease_Programme_follow_r3 : List Abs.Op := [
  ⟨some 17, none, false, .bin .lss (.t 16) (.t 15)⟩]

def f_lease_Programme_follow_r4 : List Abs.Op := [
  ⟨some 18, none, false, .mv (.t 16)⟩,
  ⟨some 19, none, false, .idxS 1 (.t 14) (.t 16)⟩,
  ⟨some 20, none, false, .ld false 1 (.t 19)⟩,
  ⟨some 9, none, false, .mv (.t 18)⟩,
  ⟨some 10, none, false, .mv (.t 20)⟩]

def f_lease_Programme_follow_r5 : List Abs.Op := [
  ⟨some 21, none, false, .ld true 5 (.t 3)⟩,
  ⟨some 22, none, false, .mv (.t 9)⟩,
  ⟨some 23, none, false, .mv (.t 8)⟩,
  ⟨some 24, none, false, .mv (.t 10)⟩,
  ⟨some 25, none, false, .call false (.c (.fn i_lease_Programme_meets [] [])) [(.t 21), (.t 22), (.t 23), (.t 24)]⟩,
  ⟨some 26, none, false, .un .not (.t 25)⟩]

def f_lease_Programme_follow_r6 : List Abs.Op := [
  ⟨some 6, none, false, .mv (.c (.int .i64 0))⟩,
  ⟨some 7, none, false, .mv (.c (.bool false))⟩]

def f_lease_Programme_follow_r7 : List Abs.Op := [
  ⟨some 27, none, false, .mv (.t 2)⟩,
  ⟨some 28, none, false, .mv (.t 8)⟩,
  ⟨some 29, none, false, .mv (.t 10)⟩,
  ⟨some 30, none, false, .fadr 1 (.t 3)⟩,
  ⟨some 31, none, false, .ld false 1 (.t 30)⟩,
  ⟨some 32, none, false, .bin .mul (.t 29) (.t 31)⟩,
  ⟨some 33, none, false, .bin .add (.t 28) (.t 32)⟩,
  ⟨some 34, none, false, .call false (.t 27) [(.t 33)]⟩]

def f_lease_Programme_follow_r8 : List Abs.Op := [
  ⟨some 35, none, false, .fadr 4 (.t 3)⟩,
  ⟨some 36, none, false, .ld false 1 (.t 35)⟩,
  ⟨some 37, none, false, .mv (.t 9)⟩,
  ⟨some 38, none, false, .idxS 2 (.t 36) (.t 37)⟩,
  ⟨some 39, none, false, .ld true 2 (.t 38)⟩,
  ⟨some 40, none, false, .mkf i_lease_Year_cost [(.t 39)] []⟩,
  ⟨some 11, none, false, .mv (.t 40)⟩]

def f_lease_Programme_follow_r9 : List Abs.Op := [
  ⟨some 41, none, false, .mv (.t 6)⟩,
  ⟨some 42, none, false, .mv (.t 11)⟩,
  ⟨some 43, none, false, .mv (.t 10)⟩,
  ⟨some 44, none, false, .call false (.t 42) [(.t 43)]⟩,
  ⟨some 45, none, false, .bin .add (.t 41) (.t 44)⟩,
  ⟨some 6, none, false, .mv (.t 45)⟩]

def f_lease_Programme_follow_r10 : List Abs.Op := [
  ⟨some 46, none, false, .ld true 5 (.t 3)⟩,
  ⟨some 47, none, false, .mv (.t 8)⟩,
  ⟨some 48, none, false, .mv (.t 10)⟩,
  ⟨some 49, none, false, .call false (.c (.fn i_lease_Programme_after [] [])) [(.t 46), (.t 47), (.t 48)]⟩,
  ⟨some 8, none, false, .mv (.t 49)⟩]

def f_lease_Programme_follow_r11 : List Abs.Op := [
  ⟨some 50, none, false, .bin .add (.t 16) (.c (.int .i64 1))⟩,
  ⟨some 16, none, false, .mv (.t 50)⟩]

def f_lease_Programme_follow_l12 : Abs.Cmd :=
  (.seq (.reg [2, 3, 6, 8, 14, 15, 16, 17] f_lease_Programme_follow_r3) (.seq (.ite (.t 17) .nop (.exit 0)) (.seq (.blk 1 (.seq (.reg [2, 3, 6, 8, 9, 10, 14, 15, 16] f_lease_Programme_follow_r4) (.seq (.seq (.reg [2, 3, 6, 8, 9, 10, 14, 15, 16, 26] f_lease_Programme_follow_r5) (.ite (.t 26) (.seq (.reg [6, 7] f_lease_Programme_follow_r6) .ret) .nop)) (.seq (.reg [2, 3, 6, 8, 9, 10, 14, 15, 16] f_lease_Programme_follow_r7) (.seq (.reg [2, 3, 6, 8, 10, 11, 14, 15, 16] f_lease_Programme_follow_r8) (.seq (.reg [2, 3, 6, 8, 10, 14, 15, 16] f_lease_Programme_follow_r9) (.reg [2, 3, 6, 8, 14, 15, 16] f_lease_Programme_follow_r10))))))) (.reg [2, 3, 6, 8, 14, 15, 16] f_lease_Programme_follow_r11))))

def f_lease_Programme_follow_r13 : List Abs.Op := [
  ⟨some 51, none, false, .mv (.t 6)⟩,
  ⟨some 6, none, false, .mv (.t 51)⟩,
  ⟨some 7, none, false, .mv (.c (.bool true))⟩]

def a_lease_Programme_follow : Ann := ⟨[(12, [6, 7]), (11, [2, 3, 6, 8, 14, 15, 16]), (10, [2, 3, 6, 8, 14, 15, 16]), (9, [2, 3, 6, 8, 10, 14, 15, 16]), (8, [2, 3, 6, 8, 10, 11, 14, 15, 16]), (7, [2, 3, 6, 8, 9, 10, 14, 15, 16]), (6, [6, 7]), (5, [2, 3, 6, 8, 9, 10, 14, 15, 16, 26]), (4, [2, 3, 6, 8, 9, 10, 14, 15, 16]), (3, [2, 3, 6, 8, 14, 15, 16, 17]), (2, [2, 3, 6, 8, 14, 15, 16]), (1, [1, 2, 3, 6, 8]), (0, [1, 2, 3, 6])], [(0, [2, 3, 6, 8, 14, 15, 16])], [], [], [], [], [], [], [], []⟩
def f_lease_Programme_follow : Abs.Fn := ⟨3, [.t 6, .t 7],
  (.seq (.reg [1, 2, 3, 6] f_lease_Programme_follow_r0) (.seq (.reg [1, 2, 3, 6, 8] f_lease_Programme_follow_r1) (.seq (.seq (.reg [2, 3, 6, 8, 14, 15, 16] f_lease_Programme_follow_r2) (.blk 0 (.loop [2, 3, 6, 8, 14, 15, 16] false f_lease_Programme_follow_l12))) (.seq (.reg [6, 7] f_lease_Programme_follow_r13) .ret))))⟩

theorem e_lease_Programme_follow_r0 : type_of% f_lease_Programme_follow_r0.eq_1 := by_rfl f_lease_Programme_follow_r0.eq_1
theorem e_lease_Programme_follow_r1 : type_of% f_lease_Programme_follow_r1.eq_1 := by_rfl f_lease_Programme_follow_r1.eq_1
theorem e_lease_Programme_follow_r2 : type_of% f_lease_Programme_follow_r2.eq_1 := by_rfl f_lease_Programme_follow_r2.eq_1
theorem e_lease_Programme_follow_r3 : type_of% f_lease_Programme_follow_r3.eq_1 := by_rfl f_lease_Programme_follow_r3.eq_1
theorem e_lease_Programme_follow_r4 : type_of% f_lease_Programme_follow_r4.eq_1 := by_rfl f_lease_Programme_follow_r4.eq_1
theorem e_lease_Programme_follow_r5 : type_of% f_lease_Programme_follow_r5.eq_1 := by_rfl f_lease_Programme_follow_r5.eq_1
theorem e_lease_Programme_follow_r6 : type_of% f_lease_Programme_follow_r6.eq_1 := by_rfl f_lease_Programme_follow_r6.eq_1
theorem e_lease_Programme_follow_r7 : type_of% f_lease_Programme_follow_r7.eq_1 := by_rfl f_lease_Programme_follow_r7.eq_1
theorem e_lease_Programme_follow_r8 : type_of% f_lease_Programme_follow_r8.eq_1 := by_rfl f_lease_Programme_follow_r8.eq_1
theorem e_lease_Programme_follow_r9 : type_of% f_lease_Programme_follow_r9.eq_1 := by_rfl f_lease_Programme_follow_r9.eq_1
theorem e_lease_Programme_follow_r10 : type_of% f_lease_Programme_follow_r10.eq_1 := by_rfl f_lease_Programme_follow_r10.eq_1
theorem e_lease_Programme_follow_r11 : type_of% f_lease_Programme_follow_r11.eq_1 := by_rfl f_lease_Programme_follow_r11.eq_1
theorem e_lease_Programme_follow_l12 : type_of% f_lease_Programme_follow_l12.eq_1 := by_rfl f_lease_Programme_follow_l12.eq_1
theorem e_lease_Programme_follow_r13 : type_of% f_lease_Programme_follow_r13.eq_1 := by_rfl f_lease_Programme_follow_r13.eq_1
theorem e_lease_Programme_follow : type_of% f_lease_Programme_follow.eq_1 := by_rfl f_lease_Programme_follow.eq_1
theorem ok_lease_Programme_follow : fnC Tryz.prog a_lease_Programme_follow Tryz.f73 = some f_lease_Programme_follow := by kernel_rfl

/-! 74 fumarole/lease.ProveDrill$2 -/
def a_lease_ProveDrill_2 : Ann := ⟨[], [], [], [], [], [], [], [], [], []⟩
def f_lease_ProveDrill_2 : Abs.Fn := ⟨1, [],
  .nop⟩

theorem e_lease_ProveDrill_2 : type_of% f_lease_ProveDrill_2.eq_1 := by_rfl f_lease_ProveDrill_2.eq_1
theorem ok_lease_ProveDrill_2 : fnC Tryz.prog a_lease_ProveDrill_2 Tryz.f74 = some f_lease_ProveDrill_2 := by kernel_rfl

/-! 75 (fumarole/lease.work).least -/
def f_lease_work_least_r0 : List Abs.Op := [
  ⟨some 4, none, false, .boxi (.t 0)⟩,
  ⟨some 8, none, false, .mv (.c (.int .i64 0))⟩]

def f_lease_work_least_r1 : List Abs.Op := [
  ⟨some 9, none, false, .mv (.c (.int .i64 1000000000000))⟩]

def f_lease_work_least_r2 : List Abs.Op := [
  ⟨some 11, none, false, .fadr 0 (.t 4)⟩,
  ⟨some 12, none, false, .fadr 3 (.t 11)⟩,
  ⟨some 13, none, false, .ld false 1 (.t 12)⟩,
  ⟨some 14, none, false, .bin .add (.t 13) (.c (.int .i64 1))⟩,
  ⟨some 15, none, false, .mv (.c (.int .i64 0))⟩]

def f_lease_work_least_r3 : List Abs.Op := [
  ⟨some 16, none, false, .bin .lss (.t 15) (.t 14)⟩]

def f_lease_work_least_r4 : List Abs.Op := [
  ⟨some 17, none, false, .mv (.t 15)⟩,
  ⟨some 10, none, false, .mv (.t 17)⟩]

def f_lease_work_least_r5 : List Abs.Op := [
  ⟨some 18, none, false, .fadr 0 (.t 4)⟩,
  ⟨some 19, none, false, .ld true 5 (.t 18)⟩,
  ⟨some 20, none, false, .mv (.t 1)⟩,
  ⟨some 21, none, false, .mv (.t 2)⟩,
  ⟨some 22, none, false, .mv (.t 10)⟩,
  ⟨some 23, none, false, .call false (.c (.fn i_lease_Programme_meets [] [])) [(.t 19), (.t 20), (.t 21), (.t 22)]⟩]

def f_lease_work_least_r6 : List Abs.Op := [
  ⟨some 24, none, true, .mv (.t 9)⟩,
  ⟨some 25, none, true, .fadr 0 (.t 4)⟩,
  ⟨some 26, none, true, .fadr 4 (.t 25)⟩,
  ⟨some 27, none, true, .ld false 1 (.t 26)⟩,
  ⟨some 28, none, true, .mv (.t 1)⟩,
  ⟨some 29, none, true, .idxS 2 (.t 27) (.t 28)⟩,
  ⟨some 30, none, true, .ld true 2 (.t 29)⟩,
  ⟨some 31, none, true, .mv (.t 10)⟩,
  ⟨some 32, none, true, .call false (.c (.fn i_lease_Year_cost [] [])) [(.t 30), (.t 31)]⟩,
  ⟨some 33, none, true, .mv (.t 3)⟩,
  ⟨some 34, none, true, .fadr 0 (.t 4)⟩,
  ⟨some 35, none, true, .ld true 5 (.t 34)⟩,
  ⟨some 36, none, true, .mv (.t 2)⟩,
  ⟨some 37, none, true, .mv (.t 10)⟩,
  ⟨some 38, none, true, .call false (.c (.fn i_lease_Programme_after [] [])) [(.t 35), (.t 36), (.t 37)]⟩,
  ⟨some 39, none, true, .call false (.c (.fn i_lease_ladder_at [] [])) [(.t 33), (.t 38)]⟩,
  ⟨some 40, none, true, .bin .add (.t 32) (.t 39)⟩,
  ⟨some 41, none, false, .mn (.t 24) (.t 40)⟩,
  ⟨some 9, none, false, .mv (.t 41)⟩]

def f_lease_work_least_r7 : List Abs.Op := [
  ⟨some 42, none, false, .bin .add (.t 15) (.c (.int .i64 1))⟩,
  ⟨some 15, none, false, .mv (.t 42)⟩]

def f_lease_work_least_l8 : Abs.Cmd :=
  (.seq (.reg [1, 2, 3, 4, 9, 14, 15, 16] f_lease_work_least_r3) (.seq (.ite (.t 16) .nop (.exit 0)) (.seq (.blk 1 (.seq (.reg [1, 2, 3, 4, 9, 10, 14, 15] f_lease_work_least_r4) (.seq (.reg [1, 2, 3, 4, 9, 10, 14, 15, 23] f_lease_work_least_r5) (.ite (.t 23) (.reg [1, 2, 3, 4, 9, 14, 15] f_lease_work_least_r6) .nop)))) (.reg [1, 2, 3, 4, 9, 14, 15] f_lease_work_least_r7))))

def f_lease_work_least_r9 : List Abs.Op := [
  ⟨some 43, none, false, .mv (.t 9)⟩,
  ⟨some 8, none, false, .mv (.t 43)⟩]

def a_lease_work_least : Ann := ⟨[(8, [8]), (7, [1, 2, 3, 4, 9, 14, 15]), (6, [1, 2, 3, 4, 9, 14, 15]), (5, [1, 2, 3, 4, 9, 10, 14, 15, 23]), (4, [1, 2, 3, 4, 9, 10, 14, 15]), (3, [1, 2, 3, 4, 9, 14, 15, 16]), (2, [1, 2, 3, 4, 9, 14, 15]), (1, [1, 2, 3, 4, 9]), (0, [1, 2, 3, 4])], [(0, [1, 2, 3, 4, 9, 14, 15])], [], [], [], [], [], [], [], []⟩
def f_lease_work_least : Abs.Fn := ⟨4, [.t 8],
  (.seq (.reg [1, 2, 3, 4] f_lease_work_least_r0) (.seq (.reg [1, 2, 3, 4, 9] f_lease_work_least_r1) (.seq (.seq (.reg [1, 2, 3, 4, 9, 14, 15] f_lease_work_least_r2) (.blk 0 (.loop [1, 2, 3, 4, 9, 14, 15] false f_lease_work_least_l8))) (.seq (.reg [8] f_lease_work_least_r9) .ret))))⟩

theorem e_lease_work_least_r0 : type_of% f_lease_work_least_r0.eq_1 := by_rfl f_lease_work_least_r0.eq_1
theorem e_lease_work_least_r1 : type_of% f_lease_work_least_r1.eq_1 := by_rfl f_lease_work_least_r1.eq_1
theorem e_lease_work_least_r2 : type_of% f_lease_work_least_r2.eq_1 := by_rfl f_lease_work_least_r2.eq_1
theorem e_lease_work_least_r3 : type_of% f_lease_work_least_r3.eq_1 := by_rfl f_lease_work_least_r3.eq_1
theorem e_lease_work_least_r4 : type_of% f_lease_work_least_r4.eq_1 := by_rfl f_lease_work_least_r4.eq_1
theorem e_lease_work_least_r5 : type_of% f_lease_work_least_r5.eq_1 := by_rfl f_lease_work_least_r5.eq_1
theorem e_lease_work_least_r6 : type_of% f_lease_work_least_r6.eq_1 := by_rfl f_lease_work_least_r6.eq_1
theorem e_lease_work_least_r7 : type_of% f_lease_work_least_r7.eq_1 := by_rfl f_lease_work_least_r7.eq_1
theorem e_lease_work_least_l8 : type_of% f_lease_work_least_l8.eq_1 := by_rfl f_lease_work_least_l8.eq_1
theorem e_lease_work_least_r9 : type_of% f_lease_work_least_r9.eq_1 := by_rfl f_lease_work_least_r9.eq_1
theorem e_lease_work_least : type_of% f_lease_work_least.eq_1 := by_rfl f_lease_work_least.eq_1
theorem ok_lease_work_least : fnC Tryz.prog a_lease_work_least Tryz.f75 = some f_lease_work_least := by kernel_rfl

/-! 77 fumarole/lease.total -/
def f_lease_total_r0 : List Abs.Op := [
  ⟨some 2, none, false, .mv (.c (.bool false))⟩]

def f_lease_total_r1 : List Abs.Op := [
  ⟨some 3, none, false, .mv (.t 0)⟩,
  ⟨some 4, none, false, .call false (.c (.fn i_lease_within [] [])) [(.t 3), (.c (.int .i64 0)), (.c (.int .i64 1000000000000))]⟩,
  ⟨some 2, none, false, .mv (.t 4)⟩]

def a_lease_total : Ann := ⟨[(1, [2]), (0, [0])], [], [], [], [], [], [], [], [], []⟩
def f_lease_total : Abs.Fn := ⟨1, [.t 2],
  (.seq (.reg [0] f_lease_total_r0) (.seq (.reg [2] f_lease_total_r1) .ret))⟩

theorem e_lease_total_r0 : type_of% f_lease_total_r0.eq_1 := by_rfl f_lease_total_r0.eq_1
theorem e_lease_total_r1 : type_of% f_lease_total_r1.eq_1 := by_rfl f_lease_total_r1.eq_1
theorem e_lease_total : type_of% f_lease_total.eq_1 := by_rfl f_lease_total.eq_1
theorem ok_lease_total : fnC Tryz.prog a_lease_total Tryz.f77 = some f_lease_total := by kernel_rfl

/-! 78 fumarole/lease.all[int] -/
def f_lease_all_int_r0 : List Abs.Op := [
  ⟨some 3, none, false, .boxi (.t 1)⟩,
  ⟨some 4, none, false, .mv (.c (.bool false))⟩]

def f_lease_all_int_r1 : List Abs.Op := [
  ⟨some 5, none, false, .mv (.t 0)⟩,
  ⟨some 6, none, false, .mkf i_lease_all_int_1 [] [(.t 3)]⟩,
  ⟨some 7, none, false, .call false (.c (.fn i_slices_ContainsFunc_int [] [])) [(.t 5), (.t 6)]⟩,
  ⟨some 8, none, false, .un .not (.t 7)⟩,
  ⟨some 4, none, false, .mv (.t 8)⟩]

def a_lease_all_int : Ann := ⟨[(1, [4]), (0, [0, 3])], [], [], [], [], [], [], [], [], []⟩
def f_lease_all_int : Abs.Fn := ⟨2, [.t 4],
  (.seq (.reg [0, 3] f_lease_all_int_r0) (.seq (.reg [4] f_lease_all_int_r1) .ret))⟩

theorem e_lease_all_int_r0 : type_of% f_lease_all_int_r0.eq_1 := by_rfl f_lease_all_int_r0.eq_1
theorem e_lease_all_int_r1 : type_of% f_lease_all_int_r1.eq_1 := by_rfl f_lease_all_int_r1.eq_1
theorem e_lease_all_int : type_of% f_lease_all_int.eq_1 := by_rfl f_lease_all_int.eq_1
theorem ok_lease_all_int : fnC Tryz.prog a_lease_all_int Tryz.f78 = some f_lease_all_int := by kernel_rfl

/-! 79 fumarole/lease.sum -/
def f_lease_sum_r0 : List Abs.Op := [
  ⟨some 2, none, false, .mv (.c (.int .i64 0))⟩]

def f_lease_sum_r1 : List Abs.Op := [
  ⟨some 5, none, false, .mv (.t 0)⟩,
  ⟨some 6, none, false, .lenS (.t 5)⟩,
  ⟨some 7, none, false, .mv (.c (.int .i64 0))⟩]

def f_lease_sum_r2 : List Abs.Op := [
  ⟨some 8, none, false, .bin .lss (.t 7) (.t 6)⟩]

def f_lease_sum_r3 : List Abs.Op := [
  ⟨some 9, none, false, .idxS 1 (.t 5) (.t 7)⟩,
  ⟨some 10, none, false, .ld false 1 (.t 9)⟩,
  ⟨some 4, none, false, .mv (.t 10)⟩]

def f_lease_sum_r4 : List Abs.Op := [
  ⟨some 11, none, false, .mv (.t 2)⟩,
  ⟨some 12, none, false, .mv (.t 4)⟩,
  ⟨some 13, none, false, .bin .add (.t 11) (.t 12)⟩,
  ⟨some 2, none, false, .mv (.t 13)⟩]

def f_lease_sum_r5 : List Abs.Op := [
  ⟨some 14, none, false, .bin .add (.t 7) (.c (.int .i64 1))⟩,
  ⟨some 7, none, false, .mv (.t 14)⟩]

def f_lease_sum_l6 : Abs.Cmd :=
  (.seq (.reg [2, 5, 6, 7, 8] f_lease_sum_r2) (.seq (.ite (.t 8) .nop (.exit 0)) (.seq (.blk 1 (.seq (.reg [2, 4, 5, 6, 7] f_lease_sum_r3) (.reg [2, 5, 6, 7] f_lease_sum_r4))) (.reg [2, 5, 6, 7] f_lease_sum_r5))))

def f_lease_sum_r7 : List Abs.Op := [
  ⟨some 15, none, false, .mv (.t 2)⟩,
  ⟨some 2, none, false, .mv (.t 15)⟩]

def a_lease_sum : Ann := ⟨[(6, [2]), (5, [2, 5, 6, 7]), (4, [2, 5, 6, 7]), (3, [2, 4, 5, 6, 7]), (2, [2, 5, 6, 7, 8]), (1, [2, 5, 6, 7]), (0, [0, 2])], [(0, [2, 5, 6, 7])], [], [], [], [], [], [], [], []⟩
def f_lease_sum : Abs.Fn := ⟨1, [.t 2],
  (.seq (.reg [0, 2] f_lease_sum_r0) (.seq (.seq (.reg [2, 5, 6, 7] f_lease_sum_r1) (.blk 0 (.loop [2, 5, 6, 7] false f_lease_sum_l6))) (.seq (.reg [2] f_lease_sum_r7) .ret)))⟩

theorem e_lease_sum_r0 : type_of% f_lease_sum_r0.eq_1 := by_rfl f_lease_sum_r0.eq_1
theorem e_lease_sum_r1 : type_of% f_lease_sum_r1.eq_1 := by_rfl f_lease_sum_r1.eq_1
theorem e_lease_sum_r2 : type_of% f_lease_sum_r2.eq_1 := by_rfl f_lease_sum_r2.eq_1
theorem e_lease_sum_r3 : type_of% f_lease_sum_r3.eq_1 := by_rfl f_lease_sum_r3.eq_1
theorem e_lease_sum_r4 : type_of% f_lease_sum_r4.eq_1 := by_rfl f_lease_sum_r4.eq_1
theorem e_lease_sum_r5 : type_of% f_lease_sum_r5.eq_1 := by_rfl f_lease_sum_r5.eq_1
theorem e_lease_sum_l6 : type_of% f_lease_sum_l6.eq_1 := by_rfl f_lease_sum_l6.eq_1
theorem e_lease_sum_r7 : type_of% f_lease_sum_r7.eq_1 := by_rfl f_lease_sum_r7.eq_1
theorem e_lease_sum : type_of% f_lease_sum.eq_1 := by_rfl f_lease_sum.eq_1
theorem ok_lease_sum : fnC Tryz.prog a_lease_sum Tryz.f79 = some f_lease_sum := by kernel_rfl

/-! 80 fumarole/lease.part -/
def f_lease_part_r0 : List Abs.Op := [
  ⟨some 6, none, false, .alcv [] [(.int .i64 0), (.int .i64 0)]⟩]

def f_lease_part_r1 : List Abs.Op := [
  ⟨some 7, none, false, .mv (.c (.int .i64 39))⟩]

def f_lease_part_r2 : List Abs.Op := [
  ⟨some 8, none, false, .mv (.t 7)⟩,
  ⟨some 9, none, false, .bin .geq (.t 8) (.c (.int .i64 0))⟩]

def f_lease_part_r3 : List Abs.Op := [
  ⟨some 12, none, false, .fadr 0 (.t 6)⟩,
  ⟨some 13, none, false, .ldv 6 false 1 12⟩,
  ⟨some 14, none, false, .bin .mul (.c (.int .i64 2)) (.t 13)⟩,
  ⟨some 15, none, false, .fadr 1 (.t 6)⟩,
  ⟨some 16, none, false, .ldv 6 false 1 15⟩,
  ⟨some 17, none, false, .bin .mul (.c (.int .i64 2)) (.t 16)⟩,
  ⟨some 18, none, false, .fadr 0 (.t 6)⟩,
  ⟨none, none, false, .stv 6 [] 1 18 (.t 14)⟩,
  ⟨some 19, none, false, .fadr 1 (.t 6)⟩,
  ⟨none, none, false, .stv 6 [] 1 19 (.t 17)⟩]

def f_lease_part_r4 : List Abs.Op := [
  ⟨some 20, none, false, .mv (.t 0)⟩,
  ⟨some 21, none, false, .mv (.t 7)⟩,
  ⟨some 22, none, false, .bin .shr (.t 20) (.t 21)⟩,
  ⟨some 23, none, false, .bin .and (.t 22) (.c (.int .i64 1))⟩,
  ⟨some 24, none, false, .bin .eql (.t 23) (.c (.int .i64 1))⟩]

def f_lease_part_r5 : List Abs.Op := [
  ⟨some 25, none, false, .fadr 1 (.t 6)⟩,
  ⟨some 26, none, false, .ldv 6 false 1 25⟩,
  ⟨some 27, none, false, .mv (.t 1)⟩,
  ⟨some 28, none, false, .bin .add (.t 26) (.t 27)⟩,
  ⟨some 29, none, false, .fadr 1 (.t 6)⟩,
  ⟨none, none, false, .stv 6 [] 1 29 (.t 28)⟩]

def f_lease_part_r6 : List Abs.Op := [
  ⟨some 30, none, true, .fadr 0 (.t 6)⟩,
  ⟨some 31, none, true, .ldv 6 false 1 30⟩,
  ⟨some 32, none, true, .fadr 1 (.t 6)⟩,
  ⟨some 33, none, true, .ldv 6 false 1 32⟩,
  ⟨some 34, none, true, .mv (.t 2)⟩,
  ⟨some 35, none, true, .bin .quo (.t 33) (.t 34)⟩,
  ⟨some 36, none, false, .bin .add (.t 31) (.t 35)⟩,
  ⟨some 37, none, false, .fadr 0 (.t 6)⟩,
  ⟨none, none, false, .stv 6 [] 1 37 (.t 36)⟩]

def f_lease_part_r7 : List Abs.Op := [
  ⟨some 38, none, false, .fadr 1 (.t 6)⟩,
  ⟨some 39, none, false, .ldv 6 false 1 38⟩,
  ⟨some 40, none, false, .mv (.t 2)⟩,
  ⟨some 41, none, false, .bin .rem (.t 39) (.t 40)⟩,
  ⟨some 42, none, false, .fadr 1 (.t 6)⟩,
  ⟨none, none, false, .stv 6 [] 1 42 (.t 41)⟩]

def f_lease_part_r8 : List Abs.Op := [
  ⟨some 10, none, false, .mv (.t 7)⟩,
  ⟨some 11, none, false, .bin .sub (.t 10) (.c (.int .i64 1))⟩,
  ⟨some 7, none, false, .mv (.t 11)⟩]

def f_lease_part_l9 : Abs.Cmd :=
  (.seq (.seq (.reg [0, 1, 2, 6, 7, 9] f_lease_part_r2) (.ite (.t 9) .nop (.exit 0))) (.seq (.blk 1 (.seq (.reg [0, 1, 2, 6, 7] f_lease_part_r3) (.seq (.seq (.reg [0, 1, 2, 6, 7, 24] f_lease_part_r4) (.ite (.t 24) (.reg [0, 1, 2, 6, 7] f_lease_part_r5) .nop)) (.seq (.reg [0, 1, 2, 6, 7] f_lease_part_r6) (.reg [0, 1, 2, 6, 7] f_lease_part_r7))))) (.reg [0, 1, 2, 6, 7] f_lease_part_r8)))

def f_lease_part_r10 : List Abs.Op := [
  ⟨some 43, none, false, .ldv 6 true 2 6⟩,
  ⟨none, none, false, .stv 6 [] 2 6 (.t 43)⟩]

def a_lease_part : Ann := ⟨[(9, [6]), (3, [0, 1, 2, 6, 7]), (8, [0, 1, 2, 6, 7]), (7, [0, 1, 2, 6, 7]), (6, [0, 1, 2, 6, 7]), (5, [0, 1, 2, 6, 7, 24]), (4, [0, 1, 2, 6, 7]), (2, [0, 1, 2, 6, 7, 9]), (1, [0, 1, 2, 6, 7]), (0, [0, 1, 2, 6])], [(0, [0, 1, 2, 6, 7])], [], [6], [6], [], [], [], [], []⟩
def f_lease_part : Abs.Fn := ⟨3, [.v 6 true 2],
  (.seq (.reg [0, 1, 2, 6] f_lease_part_r0) (.seq (.seq (.reg [0, 1, 2, 6, 7] f_lease_part_r1) (.blk 0 (.loop [0, 1, 2, 6, 7] false f_lease_part_l9))) (.seq (.reg [6] f_lease_part_r10) .ret)))⟩

theorem e_lease_part_r0 : type_of% f_lease_part_r0.eq_1 := by_rfl f_lease_part_r0.eq_1
theorem e_lease_part_r1 : type_of% f_lease_part_r1.eq_1 := by_rfl f_lease_part_r1.eq_1
theorem e_lease_part_r2 : type_of% f_lease_part_r2.eq_1 := by_rfl f_lease_part_r2.eq_1
theorem e_lease_part_r3 : type_of% f_lease_part_r3.eq_1 := by_rfl f_lease_part_r3.eq_1
theorem e_lease_part_r4 : type_of% f_lease_part_r4.eq_1 := by_rfl f_lease_part_r4.eq_1
theorem e_lease_part_r5 : type_of% f_lease_part_r5.eq_1 := by_rfl f_lease_part_r5.eq_1
theorem e_lease_part_r6 : type_of% f_lease_part_r6.eq_1 := by_rfl f_lease_part_r6.eq_1
theorem e_lease_part_r7 : type_of% f_lease_part_r7.eq_1 := by_rfl f_lease_part_r7.eq_1
theorem e_lease_part_r8 : type_of% f_lease_part_r8.eq_1 := by_rfl f_lease_part_r8.eq_1
theorem e_lease_part_l9 : type_of% f_lease_part_l9.eq_1 := by_rfl f_lease_part_l9.eq_1
theorem e_lease_part_r10 : type_of% f_lease_part_r10.eq_1 := by_rfl f_lease_part_r10.eq_1
theorem e_lease_part : type_of% f_lease_part.eq_1 := by_rfl f_lease_part.eq_1
theorem ok_lease_part : fnC Tryz.prog a_lease_part Tryz.f80 = some f_lease_part := by kernel_rfl

/-! 81 fumarole/lease.ranked[fumarole/lease.portion] -/
def f_lease_ranked_lease_portion_r0 : List Abs.Op := [
  ⟨some 2, none, false, .boxi (.t 0)⟩,
  ⟨some 3, none, false, .boxi (.t 1)⟩,
  ⟨some 4, none, false, .mv (.c .nils)⟩]

def f_lease_ranked_lease_portion_r1 : List Abs.Op := [
  ⟨some 5, none, false, .nilb 1⟩]

def f_lease_ranked_lease_portion_r2 : List Abs.Op := [
  ⟨some 7, none, false, .ld false 1 (.t 2)⟩,
  ⟨some 8, none, false, .lenS (.t 7)⟩,
  ⟨some 9, none, false, .mv (.c (.int .i64 0))⟩]

def f_lease_ranked_lease_portion_r3 : List Abs.Op := [
  ⟨some 10, none, false, .bin .lss (.t 9) (.t 8)⟩]

def f_lease_ranked_lease_portion_r4 : List Abs.Op := [
  ⟨some 11, none, false, .mv (.t 9)⟩,
  ⟨some 6, none, false, .mv (.t 11)⟩]

def f_lease_ranked_lease_portion_r5 : List Abs.Op := [
  ⟨some 12, none, false, .mv (.t 5)⟩,
  ⟨some 13, none, false, .mv (.t 6)⟩,
  ⟨some 14, none, false, .bsi 1 1 [(.int .i64 0)] [(0, 1, (.t 13))]⟩,
  ⟨some 15, none, false, .app 1 8 (.t 12) (.t 14)⟩,
  ⟨some 5, none, false, .mv (.t 15)⟩]

def f_lease_ranked_lease_portion_r6 : List Abs.Op := [
  ⟨some 16, none, false, .bin .add (.t 9) (.c (.int .i64 1))⟩,
  ⟨some 9, none, false, .mv (.t 16)⟩]

def f_lease_ranked_lease_portion_l7 : Abs.Cmd :=
  (.seq (.reg [2, 3, 5, 8, 9, 10] f_lease_ranked_lease_portion_r3) (.seq (.ite (.t 10) .nop (.exit 0)) (.seq (.blk 1 (.seq (.reg [2, 3, 5, 6, 8, 9] f_lease_ranked_lease_portion_r4) (.reg [2, 3, 5, 8, 9] f_lease_ranked_lease_portion_r5))) (.reg [2, 3, 5, 8, 9] f_lease_ranked_lease_portion_r6))))

def f_lease_ranked_lease_portion_r8 : List Abs.Op := [
  ⟨some 17, none, false, .mv (.t 5)⟩,
  ⟨some 18, none, false, .mkf i_lease_ranked_lease_portion_1 [] [(.t 3), (.t 2)]⟩,
  ⟨some 19, none, false, .call false (.c (.fn i_slices_SortStableFunc_int [] [])) [(.t 17), (.t 18)]⟩]

def f_lease_ranked_lease_portion_r9 : List Abs.Op := [
  ⟨some 20, none, false, .mv (.t 5)⟩,
  ⟨some 4, none, false, .mv (.t 20)⟩]

def a_lease_ranked_lease_portion : Ann := ⟨[(8, [4]), (7, [5]), (6, [2, 3, 5, 8, 9]), (5, [2, 3, 5, 8, 9]), (4, [2, 3, 5, 6, 8, 9]), (3, [2, 3, 5, 8, 9, 10]), (2, [2, 3, 5, 8, 9]), (1, [2, 3, 5]), (0, [2, 3])], [(0, [2, 3, 5, 8, 9])], [], [5], [], [], [], [], [], []⟩
def f_lease_ranked_lease_portion : Abs.Fn := ⟨2, [.t 4],
  (.seq (.reg [2, 3] f_lease_ranked_lease_portion_r0) (.seq (.reg [2, 3, 5] f_lease_ranked_lease_portion_r1) (.seq (.seq (.reg [2, 3, 5, 8, 9] f_lease_ranked_lease_portion_r2) (.blk 0 (.loop [2, 3, 5, 8, 9] false f_lease_ranked_lease_portion_l7))) (.seq (.reg [5] f_lease_ranked_lease_portion_r8) (.seq (.reg [4] f_lease_ranked_lease_portion_r9) .ret)))))⟩

theorem e_lease_ranked_lease_portion_r0 : type_of% f_lease_ranked_lease_portion_r0.eq_1 := by_rfl f_lease_ranked_lease_portion_r0.eq_1
theorem e_lease_ranked_lease_portion_r1 : type_of% f_lease_ranked_lease_portion_r1.eq_1 := by_rfl f_lease_ranked_lease_portion_r1.eq_1
theorem e_lease_ranked_lease_portion_r2 : type_of% f_lease_ranked_lease_portion_r2.eq_1 := by_rfl f_lease_ranked_lease_portion_r2.eq_1
theorem e_lease_ranked_lease_portion_r3 : type_of% f_lease_ranked_lease_portion_r3.eq_1 := by_rfl f_lease_ranked_lease_portion_r3.eq_1
theorem e_lease_ranked_lease_portion_r4 : type_of% f_lease_ranked_lease_portion_r4.eq_1 := by_rfl f_lease_ranked_lease_portion_r4.eq_1
theorem e_lease_ranked_lease_portion_r5 : type_of% f_lease_ranked_lease_portion_r5.eq_1 := by_rfl f_lease_ranked_lease_portion_r5.eq_1
theorem e_lease_ranked_lease_portion_r6 : type_of% f_lease_ranked_lease_portion_r6.eq_1 := by_rfl f_lease_ranked_lease_portion_r6.eq_1
theorem e_lease_ranked_lease_portion_l7 : type_of% f_lease_ranked_lease_portion_l7.eq_1 := by_rfl f_lease_ranked_lease_portion_l7.eq_1
theorem e_lease_ranked_lease_portion_r8 : type_of% f_lease_ranked_lease_portion_r8.eq_1 := by_rfl f_lease_ranked_lease_portion_r8.eq_1
theorem e_lease_ranked_lease_portion_r9 : type_of% f_lease_ranked_lease_portion_r9.eq_1 := by_rfl f_lease_ranked_lease_portion_r9.eq_1
theorem e_lease_ranked_lease_portion : type_of% f_lease_ranked_lease_portion.eq_1 := by_rfl f_lease_ranked_lease_portion.eq_1
theorem ok_lease_ranked_lease_portion : fnC Tryz.prog a_lease_ranked_lease_portion Tryz.f81 = some f_lease_ranked_lease_portion := by kernel_rfl

end Go.Proofs.YtcccafphhmcifaaGreat
