/- The code of functions of the program, in the small instruction set; each is what the translation makes of it. -/
import Derived.Test.YtehandllpmlcoaaGreatIds
set_option linter.unusedVariables false
set_option maxRecDepth 100000
namespace Go.Proofs.YtehandllpmlcoaaGreat
open Go Go.Abs
/-! 44 fumarole/rock.span[int] -/
def f44r0 : List Abs.Op := [
  ⟨some 4, none, false, .alcv [] [(.int .i64 0), (.int .i64 0)]⟩]

def f44r1 : List Abs.Op := [
  ⟨some 8, none, true, .mv (.t 1)⟩,
  ⟨some 9, none, true, .mv (.t 0)⟩,
  ⟨some 10, none, true, .idxS 1 (.t 9) (.c (.int .i64 0))⟩,
  ⟨some 11, none, true, .ld false 1 (.t 10)⟩,
  ⟨some 12, none, true, .call false (.t 8) [(.t 11)]⟩,
  ⟨some 13, none, true, .mv (.t 1)⟩,
  ⟨some 14, none, true, .mv (.t 0)⟩,
  ⟨some 15, none, true, .idxS 1 (.t 14) (.c (.int .i64 0))⟩,
  ⟨some 16, none, true, .ld false 1 (.t 15)⟩,
  ⟨some 17, none, true, .call false (.t 13) [(.t 16)]⟩,
  ⟨some 18, none, true, .bld [(.int .i64 0), (.int .i64 0)] [(0, 1, (.t 12)), (1, 1, (.t 17))]⟩,
  ⟨some 5, none, true, .alcv [] [(.int .i64 0), (.int .i64 0)]⟩,
  ⟨none, none, false, .stv 5 [] 2 5 (.t 18)⟩]

def f44r2 : List Abs.Op := [
  ⟨some 19, none, false, .mv (.t 0)⟩,
  ⟨some 20, none, false, .lenS (.t 19)⟩,
  ⟨some 21, none, false, .mv (.c (.int .i64 0))⟩]

def f44r3 : List Abs.Op := [
  ⟨some 22, none, false, .bin .lss (.t 21) (.t 20)⟩]

def f44r4 : List Abs.Op := [
  ⟨some 23, none, false, .idxS 1 (.t 19) (.t 21)⟩,
  ⟨some 24, none, false, .ld false 1 (.t 23)⟩,
  ⟨some 7, none, false, .mv (.t 24)⟩]

def f44r5 : List Abs.Op := [
  ⟨some 25, none, true, .fadr 0 (.t 5)⟩,
  ⟨some 26, none, true, .ldv 5 false 1 25⟩,
  ⟨some 27, none, true, .mv (.t 1)⟩,
  ⟨some 28, none, true, .mv (.t 7)⟩,
  ⟨some 29, none, true, .call false (.t 27) [(.t 28)]⟩,
  ⟨some 30, none, true, .mn (.t 26) (.t 29)⟩,
  ⟨some 31, none, true, .fadr 1 (.t 5)⟩,
  ⟨some 32, none, true, .ldv 5 false 1 31⟩,
  ⟨some 33, none, true, .mv (.t 1)⟩,
  ⟨some 34, none, true, .mv (.t 7)⟩,
  ⟨some 35, none, true, .call false (.t 33) [(.t 34)]⟩,
  ⟨some 36, none, true, .mx (.t 32) (.t 35)⟩,
  ⟨some 37, none, false, .bld [(.int .i64 0), (.int .i64 0)] [(0, 1, (.t 30)), (1, 1, (.t 36))]⟩,
  ⟨none, none, false, .stv 5 [] 2 5 (.t 37)⟩]

def f44r6 : List Abs.Op := [
  ⟨some 38, none, false, .bin .add (.t 21) (.c (.int .i64 1))⟩,
  ⟨some 21, none, false, .mv (.t 38)⟩]

def f_rock_span_int_l7 : Abs.Cmd :=
  (.seq (.reg [1, 4, 5, 19, 20, 21, 22] f44r3) (.seq (.ite (.t 22) .nop (.exit 0)) (.seq (.blk 1 (.seq (.reg [1, 4, 5, 7, 19, 20, 21] f44r4) (.reg [1, 4, 5, 19, 20, 21] f44r5))) (.reg [1, 4, 5, 19, 20, 21] f44r6))))

def f44r8 : List Abs.Op := [
  ⟨some 39, none, false, .ldv 5 true 2 5⟩,
  ⟨none, none, false, .stv 4 [] 2 4 (.t 39)⟩]

def a_rock_span_int : Ann := ⟨[(7, [4]), (6, [1, 4, 5, 19, 20, 21]), (5, [1, 4, 5, 19, 20, 21]), (4, [1, 4, 5, 7, 19, 20, 21]), (3, [1, 4, 5, 19, 20, 21, 22]), (2, [1, 4, 5, 19, 20, 21]), (1, [0, 1, 4, 5]), (0, [0, 1, 4])], [(0, [1, 4, 5, 19, 20, 21])], [], [4, 5], [4, 5], [], [], [], [], [], []⟩
def f_rock_span_int : Abs.Fn := ⟨2, [.v 4 true 2],
  (.seq (.reg [0, 1, 4] f44r0) (.seq (.reg [0, 1, 4, 5] f44r1) (.seq (.seq (.reg [1, 4, 5, 19, 20, 21] f44r2) (.blk 0 (.loop [1, 4, 5, 19, 20, 21] false f_rock_span_int_l7))) (.seq (.reg [4] f44r8) .ret))))⟩

@[simp] theorem e44r0 : type_of% f44r0.eq_1 := by_rfl f44r0.eq_1
@[simp] theorem e44r1 : type_of% f44r1.eq_1 := by_rfl f44r1.eq_1
@[simp] theorem e44r2 : type_of% f44r2.eq_1 := by_rfl f44r2.eq_1
@[simp] theorem e44r3 : type_of% f44r3.eq_1 := by_rfl f44r3.eq_1
@[simp] theorem e44r4 : type_of% f44r4.eq_1 := by_rfl f44r4.eq_1
@[simp] theorem e44r5 : type_of% f44r5.eq_1 := by_rfl f44r5.eq_1
@[simp] theorem e44r6 : type_of% f44r6.eq_1 := by_rfl f44r6.eq_1
@[simp] theorem e44r8 : type_of% f44r8.eq_1 := by_rfl f44r8.eq_1
theorem e_rock_span_int_l7 : type_of% f_rock_span_int_l7.eq_1 := by_rfl f_rock_span_int_l7.eq_1
theorem e_rock_span_int : type_of% f_rock_span_int.eq_1 := by_rfl f_rock_span_int.eq_1
theorem ok_rock_span_int : fnC Tryz.prog a_rock_span_int Tryz.f44 = some f_rock_span_int := by kernel_rfl

/-! 45 fumarole/rock.Ahead$2 -/
def f45r0 : List Abs.Op := [
  ⟨some 2, none, false, .mv (.c (.int .i64 0))⟩]

def f45r1 : List Abs.Op := [
  ⟨some 3, none, false, .mv (.t 0)⟩,
  ⟨some 2, none, false, .mv (.t 3)⟩]

def a_rock_Ahead_2 : Ann := ⟨[(1, [2]), (0, [0])], [], [], [], [], [], [], [], [], [], []⟩
def f_rock_Ahead_2 : Abs.Fn := ⟨1, [.t 2],
  (.seq (.reg [0] f45r0) (.seq (.reg [2] f45r1) .ret))⟩

@[simp] theorem e45r0 : type_of% f45r0.eq_1 := by_rfl f45r0.eq_1
@[simp] theorem e45r1 : type_of% f45r1.eq_1 := by_rfl f45r1.eq_1
theorem e_rock_Ahead_2 : type_of% f_rock_Ahead_2.eq_1 := by_rfl f_rock_Ahead_2.eq_1
theorem ok_rock_Ahead_2 : fnC Tryz.prog a_rock_Ahead_2 Tryz.f45 = some f_rock_Ahead_2 := by kernel_rfl

/-! 46 fumarole/rock.bed -/
def f46r0 : List Abs.Op := [
  ⟨some 2, none, false, .boxi (.t 0)⟩,
  ⟨some 3, none, false, .boxi (.t 1)⟩,
  ⟨some 4, none, false, .alcv [] [(.int .i64 0), (.int .i64 0), (.int .i64 0), (.int .i64 0), .nils, (.int .i64 0), (.int .i64 0), (.int .i64 0), .nils, (.str []), .nils]⟩,
  ⟨some 5, none, false, .mv (.c (.int .i64 0))⟩]

def f46r1 : List Abs.Op := [
  ⟨some 7, none, false, .ld true 9 (.t 2)⟩,
  ⟨some 8, none, false, .ld true 2 (.t 3)⟩,
  ⟨some 9, none, false, .bld [(.int .i64 0), (.int .i64 0), (.int .i64 0), (.int .i64 0), .nils, (.int .i64 0), (.int .i64 0), (.int .i64 0), .nils, (.str []), .nils] [(0, 9, (.t 7)), (9, 2, (.t 8))]⟩,
  ⟨some 6, none, false, .alcv [] [(.int .i64 0), (.int .i64 0), (.int .i64 0), (.int .i64 0), .nils, (.int .i64 0), (.int .i64 0), (.int .i64 0), .nils, (.str []), .nils]⟩,
  ⟨none, none, false, .stv 6 [] 11 6 (.t 9)⟩]

def f46r2 : List Abs.Op := [
  ⟨some 10, none, false, .ld true 9 (.t 2)⟩,
  ⟨some 11, none, false, .call false (.c (.fn i_rock_Bed_valid [] [])) [(.t 10)]⟩,
  ⟨some 12, none, false, .un .not (.t 11)⟩,
  ⟨some 13, none, false, .mv (.t 12)⟩,
  ⟨some 14, some (13, false), false, .ldv 6 true 11 6⟩,
  ⟨some 15, some (13, false), false, .call false (.c (.fn i_rock_bedded_fits [] [])) [(.t 14)]⟩,
  ⟨some 16, some (13, false), false, .un .not (.t 15)⟩,
  ⟨some 17, none, false, .pick (.t 13) (.c (.bool true)) (.t 16)⟩]

def f46r3 : List Abs.Op := [
  ⟨some 18, none, false, .bld [(.int .i64 0), (.int .i64 0), (.int .i64 0), (.int .i64 0), .nils, (.int .i64 0), (.int .i64 0), (.int .i64 0), .nils, (.str []), .nils] []⟩,
  ⟨none, none, false, .stv 4 [] 11 4 (.t 18)⟩,
  ⟨some 5, none, false, .mv (.c (.int .i64 1))⟩]

def f46r4 : List Abs.Op := [
  ⟨some 19, none, false, .ldv 6 true 11 6⟩,
  ⟨none, none, false, .stv 4 [] 11 4 (.t 19)⟩,
  ⟨some 5, none, false, .mv (.c (.int .i64 0))⟩]

def a_rock_bed : Ann := ⟨[(4, [4, 5]), (3, [4, 5]), (2, [4, 6, 17]), (1, [2, 4, 6]), (0, [2, 3, 4])], [], [], [4, 6], [4, 6], [], [], [], [], [], []⟩
def f_rock_bed : Abs.Fn := ⟨2, [.v 4 true 11, .t 5],
  (.seq (.reg [2, 3, 4] f46r0) (.seq (.reg [2, 4, 6] f46r1) (.seq (.seq (.reg [4, 6, 17] f46r2) (.ite (.t 17) (.seq (.reg [4, 5] f46r3) .ret) .nop)) (.seq (.reg [4, 5] f46r4) .ret))))⟩

@[simp] theorem e46r0 : type_of% f46r0.eq_1 := by_rfl f46r0.eq_1
@[simp] theorem e46r1 : type_of% f46r1.eq_1 := by_rfl f46r1.eq_1
@[simp] theorem e46r2 : type_of% f46r2.eq_1 := by_rfl f46r2.eq_1
@[simp] theorem e46r3 : type_of% f46r3.eq_1 := by_rfl f46r3.eq_1
@[simp] theorem e46r4 : type_of% f46r4.eq_1 := by_rfl f46r4.eq_1
theorem e_rock_bed : type_of% f_rock_bed.eq_1 := by_rfl f_rock_bed.eq_1
theorem ok_rock_bed : fnC Tryz.prog a_rock_bed Tryz.f46 = some f_rock_bed := by kernel_rfl

/-! 47 (fumarole/rock.Bed).plan -/
def f47r0 : List Abs.Op := [
  ⟨some 2, none, false, .boxi (.t 0)⟩,
  ⟨some 4, none, false, .mv (.c (.int .i64 0))⟩]

def f47r1 : List Abs.Op := [
  ⟨some 8, none, false, .mv (.t 1)⟩,
  ⟨some 9, none, false, .lenS (.t 8)⟩,
  ⟨some 10, none, false, .bin .gtr (.t 9) (.c (.int .i64 200))⟩]

def f47r2 : List Abs.Op := [
  ⟨some 4, none, false, .mv (.c (.int .i64 3))⟩]

def f47r3 : List Abs.Op := [
  ⟨some 11, none, false, .mv (.t 1)⟩,
  ⟨some 12, none, false, .lenS (.t 11)⟩,
  ⟨some 13, none, false, .mv (.c (.int .i64 0))⟩]

def f47r4 : List Abs.Op := [
  ⟨some 14, none, false, .bin .lss (.t 13) (.t 12)⟩]

def f47r5 : List Abs.Op := [
  ⟨some 15, none, false, .idxS 1 (.t 11) (.t 13)⟩,
  ⟨some 16, none, false, .ld false 1 (.t 15)⟩,
  ⟨some 6, none, false, .mv (.t 16)⟩]

def f47r6 : List Abs.Op := [
  ⟨some 17, none, false, .ld true 9 (.t 2)⟩,
  ⟨some 18, none, false, .mv (.t 6)⟩,
  ⟨some 19, none, false, .call false (.c (.fn i_rock_Bed_rates [] [])) [(.t 17), (.t 18)]⟩,
  ⟨some 7, none, false, .mv (.t 19)⟩]

def f47r7 : List Abs.Op := [
  ⟨some 20, none, false, .mv (.t 7)⟩,
  ⟨some 21, none, false, .bin .neq (.t 20) (.c (.int .i64 0))⟩]

def f47r8 : List Abs.Op := [
  ⟨some 22, none, false, .mv (.t 7)⟩,
  ⟨some 4, none, false, .mv (.t 22)⟩]

def f47r9 : List Abs.Op := [
  ⟨some 23, none, false, .bin .add (.t 13) (.c (.int .i64 1))⟩,
  ⟨some 13, none, false, .mv (.t 23)⟩]

def f_rock_Bed_plan_l10 : Abs.Cmd :=
  (.seq (.reg [2, 11, 12, 13, 14] f47r4) (.seq (.ite (.t 14) .nop (.exit 0)) (.seq (.blk 1 (.seq (.reg [2, 6, 11, 12, 13] f47r5) (.seq (.reg [2, 7, 11, 12, 13] f47r6) (.seq (.reg [2, 7, 11, 12, 13, 21] f47r7) (.ite (.t 21) (.seq (.reg [4] f47r8) .ret) .nop))))) (.reg [2, 11, 12, 13] f47r9))))

def f47r11 : List Abs.Op := [
  ⟨some 4, none, false, .mv (.c (.int .i64 0))⟩]

def a_rock_Bed_plan : Ann := ⟨[(10, [4]), (9, [2, 11, 12, 13]), (8, [4]), (7, [2, 7, 11, 12, 13, 21]), (6, [2, 7, 11, 12, 13]), (5, [2, 6, 11, 12, 13]), (4, [2, 11, 12, 13, 14]), (3, [2, 11, 12, 13]), (2, [4]), (1, [1, 2, 10]), (0, [1, 2])], [(0, [2, 11, 12, 13])], [], [], [], [], [], [], [], [], []⟩
def f_rock_Bed_plan : Abs.Fn := ⟨2, [.t 4],
  (.seq (.reg [1, 2] f47r0) (.seq (.seq (.reg [1, 2, 10] f47r1) (.ite (.t 10) (.seq (.reg [4] f47r2) .ret) .nop)) (.seq (.seq (.reg [2, 11, 12, 13] f47r3) (.blk 0 (.loop [2, 11, 12, 13] false f_rock_Bed_plan_l10))) (.seq (.reg [4] f47r11) .ret))))⟩

@[simp] theorem e47r0 : type_of% f47r0.eq_1 := by_rfl f47r0.eq_1
@[simp] theorem e47r1 : type_of% f47r1.eq_1 := by_rfl f47r1.eq_1
@[simp] theorem e47r2 : type_of% f47r2.eq_1 := by_rfl f47r2.eq_1
@[simp] theorem e47r3 : type_of% f47r3.eq_1 := by_rfl f47r3.eq_1
@[simp] theorem e47r4 : type_of% f47r4.eq_1 := by_rfl f47r4.eq_1
@[simp] theorem e47r5 : type_of% f47r5.eq_1 := by_rfl f47r5.eq_1
@[simp] theorem e47r6 : type_of% f47r6.eq_1 := by_rfl f47r6.eq_1
@[simp] theorem e47r7 : type_of% f47r7.eq_1 := by_rfl f47r7.eq_1
@[simp] theorem e47r8 : type_of% f47r8.eq_1 := by_rfl f47r8.eq_1
@[simp] theorem e47r9 : type_of% f47r9.eq_1 := by_rfl f47r9.eq_1
@[simp] theorem e47r11 : type_of% f47r11.eq_1 := by_rfl f47r11.eq_1
theorem e_rock_Bed_plan_l10 : type_of% f_rock_Bed_plan_l10.eq_1 := by_rfl f_rock_Bed_plan_l10.eq_1
theorem e_rock_Bed_plan : type_of% f_rock_Bed_plan.eq_1 := by_rfl f_rock_Bed_plan.eq_1
theorem ok_rock_Bed_plan : fnC Tryz.prog a_rock_Bed_plan Tryz.f47 = some f_rock_Bed_plan := by kernel_rfl

/-! 48 (fumarole/rock.bedded).run -/
def f48r0 : List Abs.Op := [
  ⟨some 2, none, false, .boxi (.t 0)⟩,
  ⟨some 4, none, false, .alcv [(0, 1), (1, 1)] [.nils, .nils]⟩]

def f48r1 : List Abs.Op := [
  ⟨some 10, none, false, .ld true 11 (.t 2)⟩,
  ⟨some 11, none, false, .call false (.c (.fn i_rock_bedded_first [] [])) [(.t 10)]⟩,
  ⟨some 12, none, false, .bsm 1 1 [.nils] [(0, 1, (.t 11))]⟩,
  ⟨some 13, none, false, .fadr 0 (.t 4)⟩,
  ⟨none, none, false, .stv 4 [(0, 1), (1, 1)] 1 13 (.t 12)⟩]

def f48r2 : List Abs.Op := [
  ⟨some 14, none, false, .mv (.t 1)⟩,
  ⟨some 15, none, false, .lenS (.t 14)⟩,
  ⟨some 16, none, false, .mv (.c (.int .i64 0))⟩]

def f48r3 : List Abs.Op := [
  ⟨some 17, none, false, .bin .lss (.t 16) (.t 15)⟩]

def f48r4 : List Abs.Op := [
  ⟨some 18, none, false, .mv (.t 16)⟩,
  ⟨some 19, none, false, .idxS 1 (.t 14) (.t 16)⟩,
  ⟨some 20, none, false, .ld false 1 (.t 19)⟩,
  ⟨some 5, none, false, .mv (.t 18)⟩,
  ⟨some 6, none, false, .mv (.t 20)⟩]

def f48r5 : List Abs.Op := [
  ⟨some 22, none, true, .ld true 11 (.t 2)⟩,
  ⟨some 23, none, true, .fadr 0 (.t 4)⟩,
  ⟨some 24, none, true, .ldv 4 false 1 23⟩,
  ⟨some 25, none, true, .mv (.t 5)⟩,
  ⟨some 26, none, true, .idxS 1 (.t 24) (.t 25)⟩,
  ⟨some 27, none, true, .ld false 1 (.t 26)⟩,
  ⟨some 28, none, true, .mv (.t 6)⟩,
  ⟨some 29, none, true, .call false (.c (.fn i_rock_bedded_tick [] [])) [(.t 22), (.t 27), (.t 28)]⟩,
  ⟨some 21, none, true, .mv (.t 29)⟩,
  ⟨some 30, none, true, .ext (.t 21) 0⟩,
  ⟨some 31, none, true, .ext (.t 21) 1⟩,
  ⟨some 32, none, true, .ext (.t 21) 2⟩,
  ⟨some 7, none, true, .mv (.t 30)⟩,
  ⟨some 8, none, true, .mv (.t 31)⟩,
  ⟨some 9, none, false, .mv (.t 32)⟩]

def f48r6 : List Abs.Op := [
  ⟨some 33, none, false, .mv (.t 9)⟩,
  ⟨some 34, none, false, .bin .neq (.t 33) (.c (.int .i64 0))⟩]

def f48r7 : List Abs.Op := [
  ⟨some 35, none, false, .bld [] []⟩,
  ⟨some 36, none, false, .mki 205 (.t 35)⟩]

def f48r8 : List Abs.Op := [
  ]

def f48r9 : List Abs.Op := [
  ⟨some 37, none, true, .fadr 0 (.t 4)⟩,
  ⟨some 38, none, true, .ldv 4 false 1 37⟩,
  ⟨some 39, none, true, .mv (.t 7)⟩,
  ⟨some 40, none, true, .bsi 1 1 [.nils] [(0, 1, (.t 39))]⟩,
  ⟨some 41, none, true, .app 1 24 (.t 38) (.t 40)⟩,
  ⟨some 42, none, true, .fadr 1 (.t 4)⟩,
  ⟨some 43, none, true, .ldv 4 false 1 42⟩,
  ⟨some 44, none, true, .mv (.t 8)⟩,
  ⟨some 45, none, true, .bsi 1 1 [.nils] [(0, 1, (.t 44))]⟩,
  ⟨some 46, none, true, .app 1 24 (.t 43) (.t 45)⟩,
  ⟨some 47, none, true, .fadr 0 (.t 4)⟩,
  ⟨none, none, false, .stv 4 [(0, 1), (1, 1)] 1 47 (.t 41)⟩,
  ⟨some 48, none, false, .fadr 1 (.t 4)⟩,
  ⟨none, none, false, .stv 4 [(0, 1)] 1 48 (.t 46)⟩]

def f48r10 : List Abs.Op := [
  ⟨some 49, none, false, .bin .add (.t 16) (.c (.int .i64 1))⟩,
  ⟨some 16, none, false, .mv (.t 49)⟩]

def f_rock_bedded_run_l11 : Abs.Cmd :=
  (.seq (.reg [2, 4, 14, 15, 16, 17] f48r3) (.seq (.ite (.t 17) .nop (.exit 0)) (.seq (.blk 1 (.seq (.reg [2, 4, 5, 6, 14, 15, 16] f48r4) (.seq (.reg [2, 4, 7, 8, 9, 14, 15, 16] f48r5) (.seq (.seq (.reg [2, 4, 7, 8, 14, 15, 16, 34] f48r6) (.ite (.t 34) (.treg [2, 4, 7, 8, 14, 15, 16] f48r7 ⟨none, none, false, .pan (.t 36)⟩ f48r8) .nop)) (.reg [2, 4, 14, 15, 16] f48r9))))) (.reg [2, 4, 14, 15, 16] f48r10))))

def f48r12 : List Abs.Op := [
  ⟨some 50, none, false, .ldv 4 true 2 4⟩,
  ⟨none, none, false, .stv 4 [(0, 1), (1, 1)] 2 4 (.t 50)⟩]

def a_rock_bedded_run : Ann := ⟨[(10, [4]), (9, [2, 4, 14, 15, 16]), (8, [2, 4, 14, 15, 16]), (7, [2, 4, 7, 8, 14, 15, 16]), (6, [2, 4, 7, 8, 14, 15, 16, 34]), (5, [2, 4, 7, 8, 9, 14, 15, 16]), (4, [2, 4, 5, 6, 14, 15, 16]), (3, [2, 4, 14, 15, 16, 17]), (2, [2, 4, 14, 15, 16]), (1, [1, 2, 4]), (0, [1, 2, 4])], [(0, [2, 4, 14, 15, 16])], [], [4, 12], [4], [(1, [(0, 1), (1, 1)]), (1004, [(0, 1), (1, 1)]), (8011, [(0, 1), (1, 1)]), (8013, [(0, 1)]), (10001, [(0, 1), (1, 1)])], [], [], [], [], [(7, some 2)]⟩
def f_rock_bedded_run : Abs.Fn := ⟨2, [.v 4 true 2],
  (.seq (.reg [1, 2, 4] f48r0) (.seq (.reg [1, 2, 4] f48r1) (.seq (.seq (.reg [2, 4, 14, 15, 16] f48r2) (.blk 0 (.loop [2, 4, 14, 15, 16] false f_rock_bedded_run_l11))) (.seq (.reg [4] f48r12) .ret))))⟩

@[simp] theorem e48r0 : type_of% f48r0.eq_1 := by_rfl f48r0.eq_1
@[simp] theorem e48r1 : type_of% f48r1.eq_1 := by_rfl f48r1.eq_1
@[simp] theorem e48r2 : type_of% f48r2.eq_1 := by_rfl f48r2.eq_1
@[simp] theorem e48r3 : type_of% f48r3.eq_1 := by_rfl f48r3.eq_1
@[simp] theorem e48r4 : type_of% f48r4.eq_1 := by_rfl f48r4.eq_1
@[simp] theorem e48r5 : type_of% f48r5.eq_1 := by_rfl f48r5.eq_1
@[simp] theorem e48r6 : type_of% f48r6.eq_1 := by_rfl f48r6.eq_1
@[simp] theorem e48r7 : type_of% f48r7.eq_1 := by_rfl f48r7.eq_1
@[simp] theorem e48r8 : type_of% f48r8.eq_1 := by_rfl f48r8.eq_1
@[simp] theorem e48r9 : type_of% f48r9.eq_1 := by_rfl f48r9.eq_1
@[simp] theorem e48r10 : type_of% f48r10.eq_1 := by_rfl f48r10.eq_1
@[simp] theorem e48r12 : type_of% f48r12.eq_1 := by_rfl f48r12.eq_1
theorem e_rock_bedded_run_l11 : type_of% f_rock_bedded_run_l11.eq_1 := by_rfl f_rock_bedded_run_l11.eq_1
theorem e_rock_bedded_run : type_of% f_rock_bedded_run.eq_1 := by_rfl f_rock_bedded_run.eq_1
theorem ok_rock_bedded_run : fnC Tryz.prog a_rock_bedded_run Tryz.f48 = some f_rock_bedded_run := by kernel_rfl

/-! 49 (fumarole/steam.Table).valid -/
def f49r0 : List Abs.Op := [
  ⟨some 2, none, false, .mv (.c (.bool false))⟩]

def f49r1 : List Abs.Op := [
  ⟨some 6, none, false, .mv (.t 0)⟩,
  ⟨some 7, none, false, .lenS (.t 6)⟩,
  ⟨some 8, none, false, .call false (.c (.fn i_steam_within [] [])) [(.t 7), (.c (.int .i64 2)), (.c (.int .i64 20))]⟩,
  ⟨some 9, none, false, .un .not (.t 8)⟩,
  ⟨some 10, none, false, .mv (.t 9)⟩,
  ⟨some 11, some (10, false), false, .mv (.t 0)⟩,
  ⟨some 12, some (10, false), false, .call false (.c (.fn i_steam_all_steam_Row [] [])) [(.t 11), (.c (.fn i_steam_Row_alone [] []))]⟩,
  ⟨some 13, some (10, false), false, .un .not (.t 12)⟩,
  ⟨some 14, none, false, .pick (.t 10) (.c (.bool true)) (.t 13)⟩]

def f49r2 : List Abs.Op := [
  ⟨some 2, none, false, .mv (.c (.bool false))⟩]

def f49r3 : List Abs.Op := [
  ⟨some 15, none, false, .mv (.t 0)⟩,
  ⟨some 16, none, false, .slc 5 (.t 15) (some (.c (.int .i64 1))) none none⟩,
  ⟨some 17, none, false, .lenS (.t 16)⟩,
  ⟨some 18, none, false, .mv (.c (.int .i64 0))⟩]

def f49r4 : List Abs.Op := [
  ⟨some 19, none, false, .bin .lss (.t 18) (.t 17)⟩]

def f49r5 : List Abs.Op := [
  ⟨some 20, none, false, .mv (.t 18)⟩,
  ⟨some 21, none, false, .idxS 5 (.t 16) (.t 18)⟩,
  ⟨some 22, none, false, .ld true 5 (.t 21)⟩,
  ⟨some 4, none, false, .alcv [] [(.int .i64 0), (.int .i64 0), (.int .i64 0), (.int .i64 0), (.int .i64 0)]⟩,
  ⟨some 3, none, false, .mv (.t 20)⟩,
  ⟨none, none, false, .stv 4 [] 5 4 (.t 22)⟩]

def f49r6 : List Abs.Op := [
  ⟨some 23, none, false, .mv (.t 0)⟩,
  ⟨some 24, none, false, .mv (.t 3)⟩,
  ⟨some 25, none, false, .idxS 5 (.t 23) (.t 24)⟩,
  ⟨some 26, none, false, .ld true 5 (.t 25)⟩,
  ⟨some 5, none, false, .alcv [] [(.int .i64 0), (.int .i64 0), (.int .i64 0), (.int .i64 0), (.int .i64 0)]⟩,
  ⟨none, none, false, .stv 5 [] 5 5 (.t 26)⟩]

def f49r7 : List Abs.Op := [
  ⟨some 27, none, false, .fadr 0 (.t 4)⟩,
  ⟨some 28, none, false, .ldv 4 false 1 27⟩,
  ⟨some 29, none, false, .fadr 0 (.t 5)⟩,
  ⟨some 30, none, false, .ldv 5 false 1 29⟩,
  ⟨some 31, none, false, .bin .leq (.t 28) (.t 30)⟩,
  ⟨some 32, none, false, .mv (.t 31)⟩,
  ⟨some 33, some (32, false), false, .fadr 1 (.t 4)⟩,
  ⟨some 34, some (32, false), false, .ldv 4 false 1 33⟩,
  ⟨some 35, some (32, false), false, .fadr 1 (.t 5)⟩,
  ⟨some 36, some (32, false), false, .ldv 5 false 1 35⟩,
  ⟨some 37, some (32, false), false, .bin .leq (.t 34) (.t 36)⟩,
  ⟨some 38, none, false, .pick (.t 32) (.c (.bool true)) (.t 37)⟩,
  ⟨some 39, none, false, .mv (.t 38)⟩,
  ⟨some 40, some (39, false), false, .fadr 2 (.t 4)⟩,
  ⟨some 41, some (39, false), false, .ldv 4 false 1 40⟩,
  ⟨some 42, some (39, false), false, .fadr 2 (.t 5)⟩,
  ⟨some 43, some (39, false), false, .ldv 5 false 1 42⟩,
  ⟨some 44, some (39, false), false, .bin .leq (.t 41) (.t 43)⟩,
  ⟨some 45, none, false, .pick (.t 39) (.c (.bool true)) (.t 44)⟩,
  ⟨some 46, none, false, .mv (.t 45)⟩,
  ⟨some 47, some (46, false), false, .fadr 4 (.t 4)⟩,
  ⟨some 48, some (46, false), false, .ldv 4 false 1 47⟩,
  ⟨some 49, some (46, false), false, .fadr 4 (.t 5)⟩,
  ⟨some 50, some (46, false), false, .ldv 5 false 1 49⟩,
  ⟨some 51, some (46, false), false, .bin .lss (.t 48) (.t 50)⟩,
  ⟨some 52, none, false, .pick (.t 46) (.c (.bool true)) (.t 51)⟩]

def f49r8 : List Abs.Op := [
  ⟨some 2, none, false, .mv (.c (.bool false))⟩]

def f49r9 : List Abs.Op := [
  ⟨some 53, none, false, .bin .add (.t 18) (.c (.int .i64 1))⟩,
  ⟨some 18, none, false, .mv (.t 53)⟩]

def f_steam_Table_valid_l10 : Abs.Cmd :=
  (.seq (.reg [0, 16, 17, 18, 19] f49r4) (.seq (.ite (.t 19) .nop (.exit 0)) (.seq (.blk 1 (.seq (.reg [0, 3, 4, 16, 17, 18] f49r5) (.seq (.reg [0, 4, 5, 16, 17, 18] f49r6) (.seq (.reg [0, 16, 17, 18, 52] f49r7) (.ite (.t 52) (.seq (.reg [2] f49r8) .ret) .nop))))) (.reg [0, 16, 17, 18] f49r9))))

def f49r11 : List Abs.Op := [
  ⟨some 2, none, false, .mv (.c (.bool true))⟩]

def a_steam_Table_valid : Ann := ⟨[(10, [2]), (9, [0, 16, 17, 18]), (8, [2]), (7, [0, 16, 17, 18, 52]), (6, [0, 4, 5, 16, 17, 18]), (5, [0, 3, 4, 16, 17, 18]), (4, [0, 16, 17, 18, 19]), (3, [0, 16, 17, 18]), (2, [2]), (1, [0, 14]), (0, [0])], [(0, [0, 16, 17, 18])], [], [4, 5], [4, 5], [], [], [], [], [], []⟩
def f_steam_Table_valid : Abs.Fn := ⟨1, [.t 2],
  (.seq (.reg [0] f49r0) (.seq (.seq (.reg [0, 14] f49r1) (.ite (.t 14) (.seq (.reg [2] f49r2) .ret) .nop)) (.seq (.seq (.reg [0, 16, 17, 18] f49r3) (.blk 0 (.loop [0, 16, 17, 18] false f_steam_Table_valid_l10))) (.seq (.reg [2] f49r11) .ret))))⟩

@[simp] theorem e49r0 : type_of% f49r0.eq_1 := by_rfl f49r0.eq_1
@[simp] theorem e49r1 : type_of% f49r1.eq_1 := by_rfl f49r1.eq_1
@[simp] theorem e49r2 : type_of% f49r2.eq_1 := by_rfl f49r2.eq_1
@[simp] theorem e49r3 : type_of% f49r3.eq_1 := by_rfl f49r3.eq_1
@[simp] theorem e49r4 : type_of% f49r4.eq_1 := by_rfl f49r4.eq_1
@[simp] theorem e49r5 : type_of% f49r5.eq_1 := by_rfl f49r5.eq_1
@[simp] theorem e49r6 : type_of% f49r6.eq_1 := by_rfl f49r6.eq_1
@[simp] theorem e49r7 : type_of% f49r7.eq_1 := by_rfl f49r7.eq_1
@[simp] theorem e49r8 : type_of% f49r8.eq_1 := by_rfl f49r8.eq_1
@[simp] theorem e49r9 : type_of% f49r9.eq_1 := by_rfl f49r9.eq_1
@[simp] theorem e49r11 : type_of% f49r11.eq_1 := by_rfl f49r11.eq_1
theorem e_steam_Table_valid_l10 : type_of% f_steam_Table_valid_l10.eq_1 := by_rfl f_steam_Table_valid_l10.eq_1
theorem e_steam_Table_valid : type_of% f_steam_Table_valid.eq_1 := by_rfl f_steam_Table_valid.eq_1
theorem ok_steam_Table_valid : fnC Tryz.prog a_steam_Table_valid Tryz.f49 = some f_steam_Table_valid := by kernel_rfl

/-! 50 (fumarole/steam.Table).has -/
def f50r0 : List Abs.Op := [
  ⟨some 4, none, false, .mv (.c (.bool false))⟩]

def f50r1 : List Abs.Op := [
  ⟨some 5, none, false, .mv (.t 1)⟩,
  ⟨some 6, none, false, .mv (.t 0)⟩,
  ⟨some 7, none, false, .lenS (.t 6)⟩,
  ⟨some 8, none, false, .bin .sub (.t 7) (.c (.int .i64 1))⟩,
  ⟨some 9, none, false, .call false (.c (.fn i_steam_within [] [])) [(.t 5), (.c (.int .i64 0)), (.t 8)]⟩,
  ⟨some 4, none, false, .mv (.t 9)⟩]

def a_steam_Table_has : Ann := ⟨[(1, [4]), (0, [0, 1])], [], [], [], [], [], [], [], [], [], []⟩
def f_steam_Table_has : Abs.Fn := ⟨2, [.t 4],
  (.seq (.reg [0, 1] f50r0) (.seq (.reg [4] f50r1) .ret))⟩

@[simp] theorem e50r0 : type_of% f50r0.eq_1 := by_rfl f50r0.eq_1
@[simp] theorem e50r1 : type_of% f50r1.eq_1 := by_rfl f50r1.eq_1
theorem e_steam_Table_has : type_of% f_steam_Table_has.eq_1 := by_rfl f_steam_Table_has.eq_1
theorem ok_steam_Table_has : fnC Tryz.prog a_steam_Table_has Tryz.f50 = some f_steam_Table_has := by kernel_rfl

/-! 51 fumarole/steam.within -/
def f51r0 : List Abs.Op := [
  ⟨some 6, none, false, .mv (.c (.bool false))⟩]

def f51r1 : List Abs.Op := [
  ⟨some 7, none, false, .mv (.t 1)⟩,
  ⟨some 8, none, false, .mv (.t 0)⟩,
  ⟨some 9, none, false, .bin .leq (.t 7) (.t 8)⟩,
  ⟨some 10, none, false, .mv (.t 9)⟩,
  ⟨some 11, some (10, true), false, .mv (.t 0)⟩,
  ⟨some 12, some (10, true), false, .mv (.t 2)⟩,
  ⟨some 13, some (10, true), false, .bin .leq (.t 11) (.t 12)⟩,
  ⟨some 14, none, false, .pick (.t 10) (.t 13) (.c (.bool false))⟩,
  ⟨some 6, none, false, .mv (.t 14)⟩]

def a_steam_within : Ann := ⟨[(1, [6]), (0, [0, 1, 2])], [], [], [], [], [], [], [], [], [], []⟩
def f_steam_within : Abs.Fn := ⟨3, [.t 6],
  (.seq (.reg [0, 1, 2] f51r0) (.seq (.reg [6] f51r1) .ret))⟩

@[simp] theorem e51r0 : type_of% f51r0.eq_1 := by_rfl f51r0.eq_1
@[simp] theorem e51r1 : type_of% f51r1.eq_1 := by_rfl f51r1.eq_1
theorem e_steam_within : type_of% f_steam_within.eq_1 := by_rfl f_steam_within.eq_1
theorem ok_steam_within : fnC Tryz.prog a_steam_within Tryz.f51 = some f_steam_within := by kernel_rfl

/-! 52 (fumarole/steam.Range).ends -/
def f52r0 : List Abs.Op := [
  ⟨some 2, none, false, .boxi (.t 0)⟩,
  ⟨some 4, none, false, .mv (.c (.bool false))⟩]

def f52r1 : List Abs.Op := [
  ⟨some 5, none, false, .fadr 0 (.t 2)⟩,
  ⟨some 6, none, false, .ld false 1 (.t 5)⟩,
  ⟨some 7, none, false, .bin .leq (.c (.int .i64 0)) (.t 6)⟩,
  ⟨some 8, none, false, .mv (.t 7)⟩,
  ⟨some 9, some (8, true), false, .fadr 0 (.t 2)⟩,
  ⟨some 10, some (8, true), false, .ld false 1 (.t 9)⟩,
  ⟨some 11, some (8, true), false, .fadr 1 (.t 2)⟩,
  ⟨some 12, some (8, true), false, .ld false 1 (.t 11)⟩,
  ⟨some 13, some (8, true), false, .bin .leq (.t 10) (.t 12)⟩,
  ⟨some 14, none, false, .pick (.t 8) (.t 13) (.c (.bool false))⟩,
  ⟨some 15, none, false, .mv (.t 14)⟩,
  ⟨some 16, some (15, true), false, .fadr 1 (.t 2)⟩,
  ⟨some 17, some (15, true), false, .ld false 1 (.t 16)⟩,
  ⟨some 18, some (15, true), false, .mv (.t 1)⟩,
  ⟨some 19, some (15, true), false, .bin .leq (.t 17) (.t 18)⟩,
  ⟨some 20, none, false, .pick (.t 15) (.t 19) (.c (.bool false))⟩,
  ⟨some 4, none, false, .mv (.t 20)⟩]

def a_steam_Range_ends : Ann := ⟨[(1, [4]), (0, [1, 2])], [], [], [], [], [], [], [], [], [], []⟩
def f_steam_Range_ends : Abs.Fn := ⟨2, [.t 4],
  (.seq (.reg [1, 2] f52r0) (.seq (.reg [4] f52r1) .ret))⟩

@[simp] theorem e52r0 : type_of% f52r0.eq_1 := by_rfl f52r0.eq_1
@[simp] theorem e52r1 : type_of% f52r1.eq_1 := by_rfl f52r1.eq_1
theorem e_steam_Range_ends : type_of% f_steam_Range_ends.eq_1 := by_rfl f_steam_Range_ends.eq_1
theorem ok_steam_Range_ends : fnC Tryz.prog a_steam_Range_ends Tryz.f52 = some f_steam_Range_ends := by kernel_rfl

/-! 53 (fumarole/steam.Table).at -/
def f53r0 : List Abs.Op := [
  ⟨some 4, none, false, .alcv [] [(.int .i64 0), (.int .i64 0), (.int .i64 0), (.int .i64 0), (.int .i64 0)]⟩]

def f53r1 : List Abs.Op := [
  ⟨some 5, none, false, .mv (.t 0)⟩,
  ⟨some 6, none, false, .mv (.t 1)⟩,
  ⟨some 7, none, false, .idxS 5 (.t 5) (.t 6)⟩,
  ⟨some 8, none, false, .ld true 5 (.t 7)⟩,
  ⟨some 9, none, false, .bld [(.int .i64 0), (.int .i64 0), (.int .i64 0), (.int .i64 0), (.int .i64 0)] [(0, 5, (.t 8))]⟩,
  ⟨none, none, false, .stv 4 [] 5 4 (.t 9)⟩]

def a_steam_Table_at : Ann := ⟨[(1, [4]), (0, [0, 1, 4])], [], [], [4], [4], [], [], [], [], [], []⟩
def f_steam_Table_at : Abs.Fn := ⟨2, [.v 4 true 5],
  (.seq (.reg [0, 1, 4] f53r0) (.seq (.reg [4] f53r1) .ret))⟩

@[simp] theorem e53r0 : type_of% f53r0.eq_1 := by_rfl f53r0.eq_1
@[simp] theorem e53r1 : type_of% f53r1.eq_1 := by_rfl f53r1.eq_1
theorem e_steam_Table_at : type_of% f_steam_Table_at.eq_1 := by_rfl f_steam_Table_at.eq_1
theorem ok_steam_Table_at : fnC Tryz.prog a_steam_Table_at Tryz.f53 = some f_steam_Table_at := by kernel_rfl

/-! 54 (fumarole/steam.flash).of -/
def f54r0 : List Abs.Op := [
  ⟨some 2, none, false, .boxi (.t 0)⟩,
  ⟨some 3, none, false, .boxi (.t 1)⟩,
  ⟨some 4, none, false, .alcv [] [(.int .i64 0), (.int .i64 0), (.int .i64 0), (.int .i64 0), (.int .i64 0), (.int .i64 0), (.int .i64 0), (.int .i64 0), (.int .i64 0), (.int .i64 0)]⟩]

def f54r1 : List Abs.Op := [
  ⟨some 7, none, false, .ld true 5 (.t 2)⟩,
  ⟨some 8, none, false, .ld true 4 (.t 3)⟩,
  ⟨some 9, none, false, .call false (.c (.fn i_steam_flash_steam [] [])) [(.t 7), (.t 8)]⟩,
  ⟨some 5, none, false, .mv (.t 9)⟩]

def f54r2 : List Abs.Op := [
  ⟨some 35, none, false, .mv (.t 5)⟩,
  ⟨some 36, none, false, .bin .eql (.t 35) (.c (.int .i64 0))⟩,
  ⟨some 34, none, false, .mv (.t 36)⟩]

def f54r3 : List Abs.Op := [
  ⟨some 37, none, false, .ld true 4 (.t 3)⟩,
  ⟨some 38, none, false, .fadr 4 (.t 4)⟩,
  ⟨none, none, false, .stv 4 [] 4 38 (.t 37)⟩]

def f54r4 : List Abs.Op := [
  ⟨some 40, none, false, .mv (.t 5)⟩,
  ⟨some 41, none, false, .fadr 0 (.t 3)⟩,
  ⟨some 42, none, false, .ld false 1 (.t 41)⟩,
  ⟨some 43, none, false, .bin .eql (.t 40) (.t 42)⟩,
  ⟨some 39, none, false, .mv (.t 43)⟩]

def f54r5 : List Abs.Op := [
  ⟨some 44, none, false, .mv (.t 5)⟩,
  ⟨some 45, none, false, .fadr 1 (.t 3)⟩,
  ⟨some 46, none, false, .ld false 1 (.t 45)⟩,
  ⟨some 47, none, false, .fadr 3 (.t 3)⟩,
  ⟨some 48, none, false, .ld false 1 (.t 47)⟩,
  ⟨some 49, none, false, .bld [(.int .i64 0), (.int .i64 0), (.int .i64 0), (.int .i64 0)] [(0, 1, (.t 44)), (1, 1, (.t 46)), (3, 1, (.t 48))]⟩,
  ⟨some 50, none, false, .fadr 0 (.t 4)⟩,
  ⟨none, none, false, .stv 4 [] 4 50 (.t 49)⟩]

def f54r6 : List Abs.Op := [
  ⟨some 10, none, false, .mv (.t 5)⟩,
  ⟨some 11, none, false, .mv (.t 5)⟩,
  ⟨some 12, none, false, .fadr 0 (.t 2)⟩,
  ⟨some 13, none, false, .fadr 3 (.t 12)⟩,
  ⟨some 14, none, false, .ld false 1 (.t 13)⟩,
  ⟨some 15, none, false, .bin .mul (.t 11) (.t 14)⟩,
  ⟨some 16, none, false, .fadr 3 (.t 3)⟩,
  ⟨some 17, none, false, .ld false 1 (.t 16)⟩,
  ⟨some 18, none, false, .bld [(.int .i64 0), (.int .i64 0), (.int .i64 0), (.int .i64 0)] [(0, 1, (.t 10)), (1, 1, (.t 15)), (3, 1, (.t 17))]⟩,
  ⟨some 19, none, false, .fadr 0 (.t 4)⟩,
  ⟨none, none, false, .stv 4 [] 4 19 (.t 18)⟩]

def f54r7 : List Abs.Op := [
  ⟨some 20, none, false, .fadr 0 (.t 3)⟩,
  ⟨some 21, none, false, .ld false 1 (.t 20)⟩,
  ⟨some 22, none, false, .mv (.t 5)⟩,
  ⟨some 23, none, false, .bin .sub (.t 21) (.t 22)⟩,
  ⟨some 24, none, false, .fadr 1 (.t 3)⟩,
  ⟨some 25, none, false, .ld false 1 (.t 24)⟩,
  ⟨some 26, none, false, .mv (.t 5)⟩,
  ⟨some 27, none, false, .fadr 0 (.t 2)⟩,
  ⟨some 28, none, false, .fadr 3 (.t 27)⟩,
  ⟨some 29, none, false, .ld false 1 (.t 28)⟩,
  ⟨some 30, none, false, .bin .mul (.t 26) (.t 29)⟩,
  ⟨some 31, none, false, .bin .sub (.t 25) (.t 30)⟩,
  ⟨some 32, none, false, .bld [(.int .i64 0), (.int .i64 0), (.int .i64 0), (.int .i64 0)] [(0, 1, (.t 23)), (1, 1, (.t 31))]⟩,
  ⟨some 33, none, false, .fadr 4 (.t 4)⟩,
  ⟨none, none, false, .stv 4 [] 4 33 (.t 32)⟩]

def f54r8 : List Abs.Op := [
  ⟨some 51, none, false, .fadr 2 (.t 3)⟩,
  ⟨some 52, none, false, .ld false 1 (.t 51)⟩,
  ⟨some 53, none, false, .fadr 4 (.t 4)⟩,
  ⟨some 54, none, false, .fadr 0 (.t 53)⟩,
  ⟨some 55, none, false, .ldv 4 false 1 54⟩,
  ⟨some 56, none, false, .fadr 0 (.t 2)⟩,
  ⟨some 57, none, false, .fadr 4 (.t 56)⟩,
  ⟨some 58, none, false, .ld false 1 (.t 57)⟩,
  ⟨some 59, none, false, .bin .mul (.t 55) (.t 58)⟩,
  ⟨some 60, none, false, .mn (.t 52) (.t 59)⟩,
  ⟨some 6, none, false, .mv (.t 60)⟩]

def f54r9 : List Abs.Op := [
  ⟨some 61, none, true, .mv (.t 6)⟩,
  ⟨some 62, none, true, .fadr 2 (.t 3)⟩,
  ⟨some 63, none, true, .ld false 1 (.t 62)⟩,
  ⟨some 64, none, true, .mv (.t 6)⟩,
  ⟨some 65, none, true, .bin .sub (.t 63) (.t 64)⟩,
  ⟨some 66, none, true, .fadr 4 (.t 4)⟩,
  ⟨some 67, none, true, .fadr 2 (.t 66)⟩,
  ⟨none, none, true, .stv 4 [] 1 67 (.t 61)⟩,
  ⟨some 68, none, false, .fadr 9 (.t 4)⟩,
  ⟨none, none, false, .stv 4 [] 1 68 (.t 65)⟩]

def f54r10 : List Abs.Op := [
  ⟨some 69, none, false, .fadr 4 (.t 4)⟩,
  ⟨some 70, none, false, .fadr 0 (.t 69)⟩,
  ⟨some 71, none, false, .ldv 4 false 1 70⟩,
  ⟨some 72, none, false, .bin .gtr (.t 71) (.c (.int .i64 0))⟩]

def f54r11 : List Abs.Op := [
  ⟨some 73, none, false, .fadr 4 (.t 4)⟩,
  ⟨some 74, none, false, .fadr 1 (.t 73)⟩,
  ⟨some 75, none, false, .ldv 4 false 1 74⟩,
  ⟨some 76, none, false, .fadr 4 (.t 4)⟩,
  ⟨some 77, none, false, .fadr 0 (.t 76)⟩,
  ⟨some 78, none, false, .ldv 4 false 1 77⟩,
  ⟨some 79, none, false, .fadr 0 (.t 2)⟩,
  ⟨some 80, none, false, .fadr 2 (.t 79)⟩,
  ⟨some 81, none, false, .ld false 1 (.t 80)⟩,
  ⟨some 82, none, false, .bin .mul (.t 78) (.t 81)⟩,
  ⟨some 83, none, false, .bin .sub (.t 75) (.t 82)⟩,
  ⟨some 84, none, false, .mx (.c (.int .i64 0)) (.t 83)⟩,
  ⟨some 85, none, false, .fadr 8 (.t 4)⟩,
  ⟨none, none, false, .stv 4 [] 1 85 (.t 84)⟩]

def f54r12 : List Abs.Op := [
  ⟨some 86, none, false, .ldv 4 true 10 4⟩,
  ⟨none, none, false, .stv 4 [] 10 4 (.t 86)⟩]

def a_steam_flash_of : Ann := ⟨[(12, [4]), (11, [4]), (10, [2, 4, 72]), (9, [2, 4]), (8, [2, 3, 4, 6]), (5, [2, 3, 4]), (7, [2, 3, 4]), (3, [2, 3, 4]), (2, [2, 3, 4, 5]), (6, [2, 3, 4, 5, 39]), (4, [2, 3, 4, 5, 34]), (1, [2, 3, 4, 5]), (0, [2, 3, 4])], [], [], [4], [4], [], [], [], [], [], []⟩
def f_steam_flash_of : Abs.Fn := ⟨2, [.v 4 true 10],
  (.seq (.reg [2, 3, 4] f54r0) (.seq (.reg [2, 3, 4, 5] f54r1) (.seq (.blk 0 (.seq (.reg [2, 3, 4, 5, 34] f54r2) (.ite (.t 34) (.reg [2, 3, 4] f54r3) (.seq (.reg [2, 3, 4, 5, 39] f54r4) (.ite (.t 39) (.reg [2, 3, 4] f54r5) (.seq (.reg [2, 3, 4, 5] f54r6) (.reg [2, 3, 4] f54r7))))))) (.seq (.reg [2, 3, 4, 6] f54r8) (.seq (.reg [2, 4] f54r9) (.seq (.seq (.reg [2, 4, 72] f54r10) (.ite (.t 72) (.reg [4] f54r11) .nop)) (.seq (.reg [4] f54r12) .ret)))))))⟩

@[simp] theorem e54r0 : type_of% f54r0.eq_1 := by_rfl f54r0.eq_1
@[simp] theorem e54r1 : type_of% f54r1.eq_1 := by_rfl f54r1.eq_1
@[simp] theorem e54r2 : type_of% f54r2.eq_1 := by_rfl f54r2.eq_1
@[simp] theorem e54r3 : type_of% f54r3.eq_1 := by_rfl f54r3.eq_1
@[simp] theorem e54r4 : type_of% f54r4.eq_1 := by_rfl f54r4.eq_1
@[simp] theorem e54r5 : type_of% f54r5.eq_1 := by_rfl f54r5.eq_1
@[simp] theorem e54r6 : type_of% f54r6.eq_1 := by_rfl f54r6.eq_1
@[simp] theorem e54r7 : type_of% f54r7.eq_1 := by_rfl f54r7.eq_1
@[simp] theorem e54r8 : type_of% f54r8.eq_1 := by_rfl f54r8.eq_1
@[simp] theorem e54r9 : type_of% f54r9.eq_1 := by_rfl f54r9.eq_1
@[simp] theorem e54r10 : type_of% f54r10.eq_1 := by_rfl f54r10.eq_1
@[simp] theorem e54r11 : type_of% f54r11.eq_1 := by_rfl f54r11.eq_1
@[simp] theorem e54r12 : type_of% f54r12.eq_1 := by_rfl f54r12.eq_1
theorem e_steam_flash_of : type_of% f_steam_flash_of.eq_1 := by_rfl f_steam_flash_of.eq_1
theorem ok_steam_flash_of : fnC Tryz.prog a_steam_flash_of Tryz.f54 = some f_steam_flash_of := by kernel_rfl

/-! 55 (fumarole/steam.Stream).valid -/
def f55r0 : List Abs.Op := [
  ⟨some 1, none, false, .boxi (.t 0)⟩,
  ⟨some 2, none, false, .mv (.c (.bool false))⟩]

def f55r1 : List Abs.Op := [
  ⟨some 3, none, false, .fadr 0 (.t 1)⟩,
  ⟨some 4, none, false, .ld false 1 (.t 3)⟩,
  ⟨some 5, none, false, .call false (.c (.fn i_steam_within [] [])) [(.t 4), (.c (.int .i64 0)), (.c (.int .i64 1000000))]⟩,
  ⟨some 6, none, false, .mv (.t 5)⟩,
  ⟨some 7, some (6, true), false, .fadr 1 (.t 1)⟩,
  ⟨some 8, some (6, true), false, .ld false 1 (.t 7)⟩,
  ⟨some 9, some (6, true), false, .fadr 0 (.t 1)⟩,
  ⟨some 10, some (6, true), false, .ld false 1 (.t 9)⟩,
  ⟨some 11, some (6, true), false, .bin .mul (.c (.int .i64 4000)) (.t 10)⟩,
  ⟨some 12, some (6, true), false, .call false (.c (.fn i_steam_within [] [])) [(.t 8), (.c (.int .i64 0)), (.t 11)]⟩,
  ⟨some 13, none, false, .pick (.t 6) (.t 12) (.c (.bool false))⟩,
  ⟨some 14, none, false, .mv (.t 13)⟩,
  ⟨some 15, some (14, true), false, .fadr 2 (.t 1)⟩,
  ⟨some 16, some (14, true), false, .ld false 1 (.t 15)⟩,
  ⟨some 17, some (14, true), false, .fadr 0 (.t 1)⟩,
  ⟨some 18, some (14, true), false, .ld false 1 (.t 17)⟩,
  ⟨some 19, some (14, true), false, .bin .mul (.c (.int .i64 10000)) (.t 18)⟩,
  ⟨some 20, some (14, true), false, .call false (.c (.fn i_steam_within [] [])) [(.t 16), (.c (.int .i64 0)), (.t 19)]⟩,
  ⟨some 21, none, false, .pick (.t 14) (.t 20) (.c (.bool false))⟩,
  ⟨some 22, none, false, .mv (.t 21)⟩,
  ⟨some 23, some (22, true), false, .fadr 3 (.t 1)⟩,
  ⟨some 24, some (22, true), false, .ld false 1 (.t 23)⟩,
  ⟨some 25, some (22, true), false, .call false (.c (.fn i_steam_within [] [])) [(.t 24), (.c (.int .i64 0)), (.c (.int .i64 1000000000))]⟩,
  ⟨some 26, none, false, .pick (.t 22) (.t 25) (.c (.bool false))⟩,
  ⟨some 2, none, false, .mv (.t 26)⟩]

def a_steam_Stream_valid : Ann := ⟨[(1, [2]), (0, [1])], [], [], [], [], [], [], [], [], [], []⟩
def f_steam_Stream_valid : Abs.Fn := ⟨1, [.t 2],
  (.seq (.reg [1] f55r0) (.seq (.reg [2] f55r1) .ret))⟩

@[simp] theorem e55r0 : type_of% f55r0.eq_1 := by_rfl f55r0.eq_1
@[simp] theorem e55r1 : type_of% f55r1.eq_1 := by_rfl f55r1.eq_1
theorem e_steam_Stream_valid : type_of% f_steam_Stream_valid.eq_1 := by_rfl f_steam_Stream_valid.eq_1
theorem ok_steam_Stream_valid : fnC Tryz.prog a_steam_Stream_valid Tryz.f55 = some f_steam_Stream_valid := by kernel_rfl

/-! 57 fumarole/fumaroleref01.In -/
def f57r0 : List Abs.Op := [
  ⟨some 6, none, false, .mv (.c (.bool false))⟩]

def f57r1 : List Abs.Op := [
  ⟨some 7, none, false, .mv (.t 0)⟩,
  ⟨some 8, none, false, .mv (.t 1)⟩,
  ⟨some 9, none, false, .bin .geq (.t 7) (.t 8)⟩,
  ⟨some 10, none, false, .mv (.t 9)⟩,
  ⟨some 11, some (10, true), false, .mv (.t 0)⟩,
  ⟨some 12, some (10, true), false, .mv (.t 2)⟩,
  ⟨some 13, some (10, true), false, .bin .leq (.t 11) (.t 12)⟩,
  ⟨some 14, none, false, .pick (.t 10) (.t 13) (.c (.bool false))⟩,
  ⟨some 6, none, false, .mv (.t 14)⟩]

def a_ref01_In : Ann := ⟨[(1, [6]), (0, [0, 1, 2])], [], [], [], [], [], [], [], [], [], []⟩
def f_ref01_In : Abs.Fn := ⟨3, [.t 6],
  (.seq (.reg [0, 1, 2] f57r0) (.seq (.reg [6] f57r1) .ret))⟩

@[simp] theorem e57r0 : type_of% f57r0.eq_1 := by_rfl f57r0.eq_1
@[simp] theorem e57r1 : type_of% f57r1.eq_1 := by_rfl f57r1.eq_1
theorem e_ref01_In : type_of% f_ref01_In.eq_1 := by_rfl f_ref01_In.eq_1
theorem ok_ref01_In : fnC Tryz.prog a_ref01_In Tryz.f57 = some f_ref01_In := by kernel_rfl

/-! 58 fumarole/fumaroleref02.Size -/
def f58r0 : List Abs.Op := [
  ⟨some 1, none, false, .boxi (.t 0)⟩,
  ⟨some 2, none, false, .mv (.c (.int .i64 0))⟩]

def f58r1 : List Abs.Op := [
  ⟨some 3, none, false, .fadr 0 (.t 1)⟩,
  ⟨some 4, none, false, .ld false 1 (.t 3)⟩,
  ⟨some 5, none, false, .fadr 1 (.t 1)⟩,
  ⟨some 6, none, false, .ld false 1 (.t 5)⟩,
  ⟨some 7, none, false, .bin .mul (.t 4) (.t 6)⟩,
  ⟨some 8, none, false, .fadr 2 (.t 1)⟩,
  ⟨some 9, none, false, .ld false 1 (.t 8)⟩,
  ⟨some 10, none, false, .bin .mul (.t 7) (.t 9)⟩,
  ⟨some 2, none, false, .mv (.t 10)⟩]

def a_ref02_Size : Ann := ⟨[(1, [2]), (0, [1])], [], [], [], [], [], [], [], [], [], []⟩
def f_ref02_Size : Abs.Fn := ⟨1, [.t 2],
  (.seq (.reg [1] f58r0) (.seq (.reg [2] f58r1) .ret))⟩

@[simp] theorem e58r0 : type_of% f58r0.eq_1 := by_rfl f58r0.eq_1
@[simp] theorem e58r1 : type_of% f58r1.eq_1 := by_rfl f58r1.eq_1
theorem e_ref02_Size : type_of% f_ref02_Size.eq_1 := by_rfl f_ref02_Size.eq_1
theorem ok_ref02_Size : fnC Tryz.prog a_ref02_Size Tryz.f58 = some f_ref02_Size := by kernel_rfl

/-! 61 slices.IndexFunc[[]int,int] -/
def f61r0 : List Abs.Op := [
  ⟨some 4, none, false, .mv (.c (.int .i64 0))⟩]

def f61r1 : List Abs.Op := [
  ⟨some 6, none, false, .mv (.t 0)⟩,
  ⟨some 7, none, false, .lenS (.t 6)⟩,
  ⟨some 8, none, false, .mv (.c (.int .i64 0))⟩]

def f61r2 : List Abs.Op := [
  ⟨some 9, none, false, .bin .lss (.t 8) (.t 7)⟩]

def f61r3 : List Abs.Op := [
  ⟨some 10, none, false, .mv (.t 8)⟩,
  ⟨some 5, none, false, .mv (.t 10)⟩]

def f61r4 : List Abs.Op := [
  ⟨some 11, none, false, .mv (.t 1)⟩,
  ⟨some 12, none, false, .mv (.t 0)⟩,
  ⟨some 13, none, false, .mv (.t 5)⟩,
  ⟨some 14, none, false, .idxS 1 (.t 12) (.t 13)⟩,
  ⟨some 15, none, false, .ld false 1 (.t 14)⟩,
  ⟨some 16, none, false, .call false (.t 11) [(.t 15)]⟩]

def f61r5 : List Abs.Op := [
  ⟨some 17, none, false, .mv (.t 5)⟩,
  ⟨some 4, none, false, .mv (.t 17)⟩]

def f61r6 : List Abs.Op := [
  ⟨some 18, none, false, .bin .add (.t 8) (.c (.int .i64 1))⟩,
  ⟨some 8, none, false, .mv (.t 18)⟩]

def f_slices_IndexFunc_int_l7 : Abs.Cmd :=
  (.seq (.reg [0, 1, 7, 8, 9] f61r2) (.seq (.ite (.t 9) .nop (.exit 0)) (.seq (.blk 1 (.seq (.reg [0, 1, 5, 7, 8] f61r3) (.seq (.reg [0, 1, 5, 7, 8, 16] f61r4) (.ite (.t 16) (.seq (.reg [4] f61r5) .ret) .nop)))) (.reg [0, 1, 7, 8] f61r6))))

def f61r8 : List Abs.Op := [
  ⟨some 4, none, false, .mv (.c (.int .i64 (-1)))⟩]

def a_slices_IndexFunc_int : Ann := ⟨[(7, [4]), (6, [0, 1, 7, 8]), (5, [4]), (4, [0, 1, 5, 7, 8, 16]), (3, [0, 1, 5, 7, 8]), (2, [0, 1, 7, 8, 9]), (1, [0, 1, 7, 8]), (0, [0, 1])], [(0, [0, 1, 7, 8])], [], [], [], [], [], [], [], [], []⟩
def f_slices_IndexFunc_int : Abs.Fn := ⟨2, [.t 4],
  (.seq (.reg [0, 1] f61r0) (.seq (.seq (.reg [0, 1, 7, 8] f61r1) (.blk 0 (.loop [0, 1, 7, 8] false f_slices_IndexFunc_int_l7))) (.seq (.reg [4] f61r8) .ret)))⟩

@[simp] theorem e61r0 : type_of% f61r0.eq_1 := by_rfl f61r0.eq_1
@[simp] theorem e61r1 : type_of% f61r1.eq_1 := by_rfl f61r1.eq_1
@[simp] theorem e61r2 : type_of% f61r2.eq_1 := by_rfl f61r2.eq_1
@[simp] theorem e61r3 : type_of% f61r3.eq_1 := by_rfl f61r3.eq_1
@[simp] theorem e61r4 : type_of% f61r4.eq_1 := by_rfl f61r4.eq_1
@[simp] theorem e61r5 : type_of% f61r5.eq_1 := by_rfl f61r5.eq_1
@[simp] theorem e61r6 : type_of% f61r6.eq_1 := by_rfl f61r6.eq_1
@[simp] theorem e61r8 : type_of% f61r8.eq_1 := by_rfl f61r8.eq_1
theorem e_slices_IndexFunc_int_l7 : type_of% f_slices_IndexFunc_int_l7.eq_1 := by_rfl f_slices_IndexFunc_int_l7.eq_1
theorem e_slices_IndexFunc_int : type_of% f_slices_IndexFunc_int.eq_1 := by_rfl f_slices_IndexFunc_int.eq_1
theorem ok_slices_IndexFunc_int : fnC Tryz.prog a_slices_IndexFunc_int Tryz.f61 = some f_slices_IndexFunc_int := by kernel_rfl

/-! 76 fumarole/rock.within -/
def f76r0 : List Abs.Op := [
  ⟨some 6, none, false, .mv (.c (.bool false))⟩]

def f76r1 : List Abs.Op := [
  ⟨some 7, none, false, .mv (.t 1)⟩,
  ⟨some 8, none, false, .mv (.t 0)⟩,
  ⟨some 9, none, false, .bin .leq (.t 7) (.t 8)⟩,
  ⟨some 10, none, false, .mv (.t 9)⟩,
  ⟨some 11, some (10, true), false, .mv (.t 0)⟩,
  ⟨some 12, some (10, true), false, .mv (.t 2)⟩,
  ⟨some 13, some (10, true), false, .bin .leq (.t 11) (.t 12)⟩,
  ⟨some 14, none, false, .pick (.t 10) (.t 13) (.c (.bool false))⟩,
  ⟨some 6, none, false, .mv (.t 14)⟩]

def a_rock_within : Ann := ⟨[(1, [6]), (0, [0, 1, 2])], [], [], [], [], [], [], [], [], [], []⟩
def f_rock_within : Abs.Fn := ⟨3, [.t 6],
  (.seq (.reg [0, 1, 2] f76r0) (.seq (.reg [6] f76r1) .ret))⟩

@[simp] theorem e76r0 : type_of% f76r0.eq_1 := by_rfl f76r0.eq_1
@[simp] theorem e76r1 : type_of% f76r1.eq_1 := by_rfl f76r1.eq_1
theorem e_rock_within : type_of% f_rock_within.eq_1 := by_rfl f_rock_within.eq_1
theorem ok_rock_within : fnC Tryz.prog a_rock_within Tryz.f76 = some f_rock_within := by kernel_rfl

/-! 79 fumarole/fumaroleref02.Right -/
def f79r0 : List Abs.Op := [
  ⟨some 1, none, false, .boxi (.t 0)⟩,
  ⟨some 2, none, false, .mv (.c (.bool false))⟩]

def f79r1 : List Abs.Op := [
  ⟨some 3, none, false, .fadr 0 (.t 1)⟩,
  ⟨some 4, none, false, .ld false 1 (.t 3)⟩,
  ⟨some 5, none, false, .call false (.c (.fn i_ref02_In [] [])) [(.t 4), (.c (.int .i64 1)), (.c (.int .i64 8))]⟩,
  ⟨some 6, none, false, .mv (.t 5)⟩,
  ⟨some 7, some (6, true), false, .fadr 1 (.t 1)⟩,
  ⟨some 8, some (6, true), false, .ld false 1 (.t 7)⟩,
  ⟨some 9, some (6, true), false, .call false (.c (.fn i_ref02_In [] [])) [(.t 8), (.c (.int .i64 1)), (.c (.int .i64 8))]⟩,
  ⟨some 10, none, false, .pick (.t 6) (.t 9) (.c (.bool false))⟩,
  ⟨some 11, none, false, .mv (.t 10)⟩,
  ⟨some 12, some (11, true), false, .fadr 2 (.t 1)⟩,
  ⟨some 13, some (11, true), false, .ld false 1 (.t 12)⟩,
  ⟨some 14, some (11, true), false, .call false (.c (.fn i_ref02_In [] [])) [(.t 13), (.c (.int .i64 1)), (.c (.int .i64 8))]⟩,
  ⟨some 15, none, false, .pick (.t 11) (.t 14) (.c (.bool false))⟩,
  ⟨some 16, none, false, .mv (.t 15)⟩,
  ⟨some 17, some (16, true), false, .fadr 0 (.t 1)⟩,
  ⟨some 18, some (16, true), false, .ld false 1 (.t 17)⟩,
  ⟨some 19, some (16, true), false, .fadr 1 (.t 1)⟩,
  ⟨some 20, some (16, true), false, .ld false 1 (.t 19)⟩,
  ⟨some 21, some (16, true), false, .bin .mul (.t 18) (.t 20)⟩,
  ⟨some 22, some (16, true), false, .fadr 2 (.t 1)⟩,
  ⟨some 23, some (16, true), false, .ld false 1 (.t 22)⟩,
  ⟨some 24, some (16, true), false, .bin .mul (.t 21) (.t 23)⟩,
  ⟨some 25, some (16, true), false, .bin .leq (.t 24) (.c (.int .i64 64))⟩,
  ⟨some 26, none, false, .pick (.t 16) (.t 25) (.c (.bool false))⟩,
  ⟨some 27, none, false, .mv (.t 26)⟩,
  ⟨some 28, some (27, true), false, .fadr 3 (.t 1)⟩,
  ⟨some 29, some (27, true), false, .ld false 1 (.t 28)⟩,
  ⟨some 30, some (27, true), false, .call false (.c (.fn i_ref02_In [] [])) [(.t 29), (.c (.int .i64 1)), (.c (.int .i64 6))]⟩,
  ⟨some 31, none, false, .pick (.t 27) (.t 30) (.c (.bool false))⟩,
  ⟨some 2, none, false, .mv (.t 31)⟩]

def a_ref02_Right : Ann := ⟨[(1, [2]), (0, [1])], [], [], [], [], [], [], [], [], [], []⟩
def f_ref02_Right : Abs.Fn := ⟨1, [.t 2],
  (.seq (.reg [1] f79r0) (.seq (.reg [2] f79r1) .ret))⟩

@[simp] theorem e79r0 : type_of% f79r0.eq_1 := by_rfl f79r0.eq_1
@[simp] theorem e79r1 : type_of% f79r1.eq_1 := by_rfl f79r1.eq_1
theorem e_ref02_Right : type_of% f_ref02_Right.eq_1 := by_rfl f_ref02_Right.eq_1
theorem ok_ref02_Right : fnC Tryz.prog a_ref02_Right Tryz.f79 = some f_ref02_Right := by kernel_rfl

/-! 80 fumarole/fumaroleref01.Right -/
def f80r0 : List Abs.Op := [
  ⟨some 2, none, false, .mv (.c (.bool false))⟩]

def f80r1 : List Abs.Op := [
  ⟨some 3, none, false, .mv (.c (.int .i64 0))⟩]

def f80r2 : List Abs.Op := [
  ⟨some 5, none, false, .mv (.t 3)⟩,
  ⟨some 6, none, false, .mv (.t 0)⟩,
  ⟨some 7, none, false, .lenS (.t 6)⟩,
  ⟨some 8, none, false, .bin .lss (.t 5) (.t 7)⟩]

def f80r3 : List Abs.Op := [
  ⟨some 11, none, false, .mv (.t 0)⟩,
  ⟨some 12, none, false, .mv (.t 3)⟩,
  ⟨some 13, none, false, .idxS 5 (.t 11) (.t 12)⟩,
  ⟨some 14, none, false, .ld true 5 (.t 13)⟩,
  ⟨some 4, none, false, .alcv [] [(.int .i64 0), (.int .i64 0), (.int .i64 0), (.int .i64 0), (.int .i64 0)]⟩,
  ⟨none, none, false, .stv 4 [] 5 4 (.t 14)⟩]

def f80r4 : List Abs.Op := [
  ⟨some 15, none, false, .fadr 0 (.t 4)⟩,
  ⟨some 16, none, false, .ldv 4 false 1 15⟩,
  ⟨some 17, none, false, .call false (.c (.fn i_ref01_In [] [])) [(.t 16), (.c (.int .i64 0)), (.c (.int .i64 400))]⟩,
  ⟨some 18, none, false, .un .not (.t 17)⟩,
  ⟨some 19, none, false, .mv (.t 18)⟩,
  ⟨some 20, some (19, false), false, .fadr 1 (.t 4)⟩,
  ⟨some 21, some (19, false), false, .ldv 4 false 1 20⟩,
  ⟨some 22, some (19, false), false, .call false (.c (.fn i_ref01_In [] [])) [(.t 21), (.c (.int .i64 1)), (.c (.int .i64 10000))]⟩,
  ⟨some 23, some (19, false), false, .un .not (.t 22)⟩,
  ⟨some 24, none, false, .pick (.t 19) (.c (.bool true)) (.t 23)⟩,
  ⟨some 25, none, false, .mv (.t 24)⟩,
  ⟨some 26, some (25, false), false, .fadr 2 (.t 4)⟩,
  ⟨some 27, some (25, false), false, .ldv 4 false 1 26⟩,
  ⟨some 28, some (25, false), false, .call false (.c (.fn i_ref01_In [] [])) [(.t 27), (.c (.int .i64 0)), (.c (.int .i64 4000))]⟩,
  ⟨some 29, some (25, false), false, .un .not (.t 28)⟩,
  ⟨some 30, none, false, .pick (.t 25) (.c (.bool true)) (.t 29)⟩,
  ⟨some 31, none, false, .mv (.t 30)⟩,
  ⟨some 32, some (31, false), false, .fadr 4 (.t 4)⟩,
  ⟨some 33, some (31, false), false, .ldv 4 false 1 32⟩,
  ⟨some 34, some (31, false), false, .call false (.c (.fn i_ref01_In [] [])) [(.t 33), (.c (.int .i64 0)), (.c (.int .i64 2000))]⟩,
  ⟨some 35, some (31, false), false, .un .not (.t 34)⟩,
  ⟨some 36, none, false, .pick (.t 31) (.c (.bool true)) (.t 35)⟩,
  ⟨some 37, none, false, .mv (.t 36)⟩,
  ⟨some 38, some (37, false), false, .fadr 3 (.t 4)⟩,
  ⟨some 39, some (37, false), false, .ldv 4 false 1 38⟩,
  ⟨some 40, some (37, false), false, .fadr 2 (.t 4)⟩,
  ⟨some 41, some (37, false), false, .ldv 4 false 1 40⟩,
  ⟨some 42, some (37, false), false, .bin .leq (.t 39) (.t 41)⟩,
  ⟨some 43, none, false, .pick (.t 37) (.c (.bool true)) (.t 42)⟩,
  ⟨some 44, none, false, .mv (.t 43)⟩,
  ⟨some 45, some (44, false), false, .fadr 3 (.t 4)⟩,
  ⟨some 46, some (44, false), false, .ldv 4 false 1 45⟩,
  ⟨some 47, some (44, false), false, .bin .gtr (.t 46) (.c (.int .i64 4000))⟩,
  ⟨some 48, none, false, .pick (.t 44) (.c (.bool true)) (.t 47)⟩]

def f80r5 : List Abs.Op := [
  ⟨some 2, none, false, .mv (.c (.bool false))⟩]

def f80r6 : List Abs.Op := [
  ⟨some 49, none, true, .mv (.t 3)⟩,
  ⟨some 50, none, true, .bin .gtr (.t 49) (.c (.int .i64 0))⟩,
  ⟨some 51, none, true, .mv (.t 50)⟩,
  ⟨some 52, some (51, true), true, .fadr 0 (.t 4)⟩,
  ⟨some 53, some (51, true), true, .ldv 4 false 1 52⟩,
  ⟨some 54, some (51, true), true, .mv (.t 0)⟩,
  ⟨some 55, some (51, true), true, .mv (.t 3)⟩,
  ⟨some 56, some (51, true), true, .bin .sub (.t 55) (.c (.int .i64 1))⟩,
  ⟨some 57, some (51, true), true, .idxS 5 (.t 54) (.t 56)⟩,
  ⟨some 58, some (51, true), true, .fadr 0 (.t 57)⟩,
  ⟨some 59, some (51, true), true, .ld false 1 (.t 58)⟩,
  ⟨some 60, some (51, true), true, .bin .leq (.t 53) (.t 59)⟩,
  ⟨some 61, some (51, true), true, .mv (.t 60)⟩,
  ⟨some 62, some (61, false), true, .fadr 1 (.t 4)⟩,
  ⟨some 63, some (61, false), true, .ldv 4 false 1 62⟩,
  ⟨some 64, some (61, false), true, .mv (.t 0)⟩,
  ⟨some 65, some (61, false), true, .mv (.t 3)⟩,
  ⟨some 66, some (61, false), true, .bin .sub (.t 65) (.c (.int .i64 1))⟩,
  ⟨some 67, some (61, false), true, .idxS 5 (.t 64) (.t 66)⟩,
  ⟨some 68, some (61, false), true, .fadr 1 (.t 67)⟩,
  ⟨some 69, some (61, false), true, .ld false 1 (.t 68)⟩,
  ⟨some 70, some (61, false), true, .bin .leq (.t 63) (.t 69)⟩,
  ⟨some 71, some (51, true), true, .pick (.t 61) (.c (.bool true)) (.t 70)⟩,
  ⟨some 72, some (51, true), true, .mv (.t 71)⟩,
  ⟨some 73, some (72, false), true, .fadr 2 (.t 4)⟩,
  ⟨some 74, some (72, false), true, .ldv 4 false 1 73⟩,
  ⟨some 75, some (72, false), true, .mv (.t 0)⟩,
  ⟨some 76, some (72, false), true, .mv (.t 3)⟩,
  ⟨some 77, some (72, false), true, .bin .sub (.t 76) (.c (.int .i64 1))⟩,
  ⟨some 78, some (72, false), true, .idxS 5 (.t 75) (.t 77)⟩,
  ⟨some 79, some (72, false), true, .fadr 2 (.t 78)⟩,
  ⟨some 80, some (72, false), true, .ld false 1 (.t 79)⟩,
  ⟨some 81, some (72, false), true, .bin .leq (.t 74) (.t 80)⟩,
  ⟨some 82, some (51, true), true, .pick (.t 72) (.c (.bool true)) (.t 81)⟩,
  ⟨some 83, some (51, true), true, .mv (.t 82)⟩,
  ⟨some 84, some (83, false), true, .fadr 4 (.t 4)⟩,
  ⟨some 85, some (83, false), true, .ldv 4 false 1 84⟩,
  ⟨some 86, some (83, false), true, .mv (.t 0)⟩,
  ⟨some 87, some (83, false), true, .mv (.t 3)⟩,
  ⟨some 88, some (83, false), true, .bin .sub (.t 87) (.c (.int .i64 1))⟩,
  ⟨some 89, some (83, false), true, .idxS 5 (.t 86) (.t 88)⟩,
  ⟨some 90, some (83, false), true, .fadr 4 (.t 89)⟩,
  ⟨some 91, some (83, false), true, .ld false 1 (.t 90)⟩,
  ⟨some 92, some (83, false), false, .bin .lss (.t 85) (.t 91)⟩,
  ⟨some 93, some (51, true), false, .pick (.t 83) (.c (.bool true)) (.t 92)⟩,
  ⟨some 94, none, false, .pick (.t 51) (.t 93) (.c (.bool false))⟩]

def f80r7 : List Abs.Op := [
  ⟨some 2, none, false, .mv (.c (.bool false))⟩]

def f80r8 : List Abs.Op := [
  ⟨some 9, none, false, .mv (.t 3)⟩,
  ⟨some 10, none, false, .bin .add (.t 9) (.c (.int .i64 1))⟩,
  ⟨some 3, none, false, .mv (.t 10)⟩]

def f_ref01_Right_l9 : Abs.Cmd :=
  (.seq (.seq (.reg [0, 3, 8] f80r2) (.ite (.t 8) .nop (.exit 0))) (.seq (.blk 1 (.seq (.reg [0, 3, 4] f80r3) (.seq (.seq (.reg [0, 3, 4, 48] f80r4) (.ite (.t 48) (.seq (.reg [2] f80r5) .ret) .nop)) (.seq (.reg [0, 3, 94] f80r6) (.ite (.t 94) (.seq (.reg [2] f80r7) .ret) .nop))))) (.reg [0, 3] f80r8)))

def f80r10 : List Abs.Op := [
  ⟨some 95, none, false, .mv (.t 0)⟩,
  ⟨some 96, none, false, .lenS (.t 95)⟩,
  ⟨some 97, none, false, .bin .geq (.t 96) (.c (.int .i64 2))⟩,
  ⟨some 98, none, false, .mv (.t 97)⟩,
  ⟨some 99, some (98, true), false, .mv (.t 0)⟩,
  ⟨some 100, some (98, true), false, .lenS (.t 99)⟩,
  ⟨some 101, some (98, true), false, .bin .leq (.t 100) (.c (.int .i64 20))⟩,
  ⟨some 102, none, false, .pick (.t 98) (.t 101) (.c (.bool false))⟩,
  ⟨some 2, none, false, .mv (.t 102)⟩]

def a_ref01_Right : Ann := ⟨[(9, [2]), (3, [0, 3]), (8, [2]), (7, [0, 3, 94]), (6, [2]), (5, [0, 3, 4, 48]), (4, [0, 3, 4]), (2, [0, 3, 8]), (1, [0, 3]), (0, [0])], [(0, [0, 3])], [], [4], [4], [], [], [], [], [], []⟩
def f_ref01_Right : Abs.Fn := ⟨1, [.t 2],
  (.seq (.reg [0] f80r0) (.seq (.seq (.reg [0, 3] f80r1) (.blk 0 (.loop [0, 3] false f_ref01_Right_l9))) (.seq (.reg [2] f80r10) .ret)))⟩

@[simp] theorem e80r0 : type_of% f80r0.eq_1 := by_rfl f80r0.eq_1
@[simp] theorem e80r1 : type_of% f80r1.eq_1 := by_rfl f80r1.eq_1
@[simp] theorem e80r2 : type_of% f80r2.eq_1 := by_rfl f80r2.eq_1
@[simp] theorem e80r3 : type_of% f80r3.eq_1 := by_rfl f80r3.eq_1
@[simp] theorem e80r4 : type_of% f80r4.eq_1 := by_rfl f80r4.eq_1
@[simp] theorem e80r5 : type_of% f80r5.eq_1 := by_rfl f80r5.eq_1
@[simp] theorem e80r6 : type_of% f80r6.eq_1 := by_rfl f80r6.eq_1
@[simp] theorem e80r7 : type_of% f80r7.eq_1 := by_rfl f80r7.eq_1
@[simp] theorem e80r8 : type_of% f80r8.eq_1 := by_rfl f80r8.eq_1
@[simp] theorem e80r10 : type_of% f80r10.eq_1 := by_rfl f80r10.eq_1
theorem e_ref01_Right_l9 : type_of% f_ref01_Right_l9.eq_1 := by_rfl f_ref01_Right_l9.eq_1
theorem e_ref01_Right : type_of% f_ref01_Right.eq_1 := by_rfl f_ref01_Right.eq_1
theorem ok_ref01_Right : fnC Tryz.prog a_ref01_Right Tryz.f80 = some f_ref01_Right := by kernel_rfl

/-! 81 fumarole/fumaroleref02.ModelsFault -/
def f81r0 : List Abs.Op := [
  ⟨some 2, none, false, .boxi (.t 0)⟩,
  ⟨some 4, none, false, .mv (.c (.int .i64 0))⟩]

def f81r1 : List Abs.Op := [
  ⟨some 8, none, false, .mv (.t 1)⟩,
  ⟨some 9, none, false, .lenS (.t 8)⟩,
  ⟨some 10, none, false, .bin .lss (.t 9) (.c (.int .i64 1))⟩,
  ⟨some 11, none, false, .mv (.t 10)⟩,
  ⟨some 12, some (11, false), false, .mv (.t 1)⟩,
  ⟨some 13, some (11, false), false, .lenS (.t 12)⟩,
  ⟨some 14, some (11, false), false, .bin .gtr (.t 13) (.c (.int .i64 40))⟩,
  ⟨some 15, none, false, .pick (.t 11) (.c (.bool true)) (.t 14)⟩]

def f81r2 : List Abs.Op := [
  ⟨some 4, none, false, .mv (.c (.int .i64 3))⟩]

def f81r3 : List Abs.Op := [
  ⟨some 5, none, false, .mv (.c (.int .i64 0))⟩]

def f81r4 : List Abs.Op := [
  ⟨some 16, none, false, .mv (.t 5)⟩,
  ⟨some 17, none, false, .mv (.t 1)⟩,
  ⟨some 18, none, false, .lenS (.t 17)⟩,
  ⟨some 19, none, false, .bin .lss (.t 16) (.t 18)⟩]

def f81r5 : List Abs.Op := [
  ⟨some 22, none, true, .ld true 4 (.t 2)⟩,
  ⟨some 23, none, true, .mv (.t 1)⟩,
  ⟨some 24, none, true, .mv (.t 5)⟩,
  ⟨some 25, none, true, .idxS 2 (.t 23) (.t 24)⟩,
  ⟨some 26, none, true, .ld true 2 (.t 25)⟩,
  ⟨some 27, none, false, .call false (.c (.fn i_ref02_ModelFault [] [])) [(.t 22), (.t 26)]⟩,
  ⟨some 6, none, false, .mv (.t 27)⟩]

def f81r6 : List Abs.Op := [
  ⟨some 28, none, false, .mv (.t 6)⟩,
  ⟨some 29, none, false, .bin .neq (.t 28) (.c (.int .i64 0))⟩]

def f81r7 : List Abs.Op := [
  ⟨some 30, none, false, .mv (.t 6)⟩,
  ⟨some 4, none, false, .mv (.t 30)⟩]

def f81r8 : List Abs.Op := [
  ⟨some 7, none, false, .mv (.c (.int .i64 0))⟩]

def f81r9 : List Abs.Op := [
  ⟨some 31, none, false, .mv (.t 7)⟩,
  ⟨some 32, none, false, .mv (.t 5)⟩,
  ⟨some 33, none, false, .bin .lss (.t 31) (.t 32)⟩]

def f81r10 : List Abs.Op := [
  ⟨some 36, none, true, .mv (.t 1)⟩,
  ⟨some 37, none, true, .mv (.t 7)⟩,
  ⟨some 38, none, true, .idxS 2 (.t 36) (.t 37)⟩,
  ⟨some 39, none, true, .fadr 0 (.t 38)⟩,
  ⟨some 40, none, true, .ld false 1 (.t 39)⟩,
  ⟨some 41, none, true, .mv (.t 1)⟩,
  ⟨some 42, none, true, .mv (.t 5)⟩,
  ⟨some 43, none, true, .idxS 2 (.t 41) (.t 42)⟩,
  ⟨some 44, none, true, .fadr 0 (.t 43)⟩,
  ⟨some 45, none, true, .ld false 1 (.t 44)⟩,
  ⟨some 46, none, false, .pur (.seq false) [(.t 40), (.t 45)]⟩]

def f81r11 : List Abs.Op := [
  ⟨some 4, none, false, .mv (.c (.int .i64 6))⟩]

def f81r12 : List Abs.Op := [
  ⟨some 34, none, false, .mv (.t 7)⟩,
  ⟨some 35, none, false, .bin .add (.t 34) (.c (.int .i64 1))⟩,
  ⟨some 7, none, false, .mv (.t 35)⟩]

def f_ref02_ModelsFault_l13 : Abs.Cmd :=
  (.seq (.seq (.reg [1, 2, 5, 7, 33] f81r9) (.ite (.t 33) .nop (.exit 2))) (.seq (.blk 3 (.seq (.reg [1, 2, 5, 7, 46] f81r10) (.ite (.t 46) (.seq (.reg [4] f81r11) .ret) .nop))) (.reg [1, 2, 5, 7] f81r12)))

def f81r14 : List Abs.Op := [
  ⟨some 20, none, false, .mv (.t 5)⟩,
  ⟨some 21, none, false, .bin .add (.t 20) (.c (.int .i64 1))⟩,
  ⟨some 5, none, false, .mv (.t 21)⟩]

def f_ref02_ModelsFault_l15 : Abs.Cmd :=
  (.seq (.seq (.reg [1, 2, 5, 19] f81r4) (.ite (.t 19) .nop (.exit 0))) (.seq (.blk 1 (.seq (.seq (.reg [1, 2, 5, 6] f81r5) (.seq (.reg [1, 2, 5, 6, 29] f81r6) (.ite (.t 29) (.seq (.reg [4] f81r7) .ret) .nop))) (.seq (.reg [1, 2, 5, 7] f81r8) (.blk 2 (.loop [1, 2, 5, 7] false f_ref02_ModelsFault_l13))))) (.reg [1, 2, 5] f81r14)))

def f81r16 : List Abs.Op := [
  ⟨some 4, none, false, .mv (.c (.int .i64 0))⟩]

def a_ref02_ModelsFault : Ann := ⟨[(14, [4]), (5, [1, 2, 5]), (11, [1, 2, 5, 7]), (13, [4]), (12, [1, 2, 5, 7, 46]), (10, [1, 2, 5, 7, 33]), (9, [1, 2, 5, 7]), (8, [4]), (7, [1, 2, 5, 6, 29]), (6, [1, 2, 5, 6]), (4, [1, 2, 5, 19]), (3, [1, 2, 5]), (2, [4]), (1, [1, 2, 15]), (0, [1, 2])], [(2, [1, 2, 5, 7]), (0, [1, 2, 5])], [], [], [], [], [], [], [], [], []⟩
def f_ref02_ModelsFault : Abs.Fn := ⟨2, [.t 4],
  (.seq (.reg [1, 2] f81r0) (.seq (.seq (.reg [1, 2, 15] f81r1) (.ite (.t 15) (.seq (.reg [4] f81r2) .ret) .nop)) (.seq (.seq (.reg [1, 2, 5] f81r3) (.blk 0 (.loop [1, 2, 5] false f_ref02_ModelsFault_l15))) (.seq (.reg [4] f81r16) .ret))))⟩

@[simp] theorem e81r0 : type_of% f81r0.eq_1 := by_rfl f81r0.eq_1
@[simp] theorem e81r1 : type_of% f81r1.eq_1 := by_rfl f81r1.eq_1
@[simp] theorem e81r2 : type_of% f81r2.eq_1 := by_rfl f81r2.eq_1
@[simp] theorem e81r3 : type_of% f81r3.eq_1 := by_rfl f81r3.eq_1
@[simp] theorem e81r4 : type_of% f81r4.eq_1 := by_rfl f81r4.eq_1
@[simp] theorem e81r5 : type_of% f81r5.eq_1 := by_rfl f81r5.eq_1
@[simp] theorem e81r6 : type_of% f81r6.eq_1 := by_rfl f81r6.eq_1
@[simp] theorem e81r7 : type_of% f81r7.eq_1 := by_rfl f81r7.eq_1
@[simp] theorem e81r8 : type_of% f81r8.eq_1 := by_rfl f81r8.eq_1
@[simp] theorem e81r9 : type_of% f81r9.eq_1 := by_rfl f81r9.eq_1
@[simp] theorem e81r10 : type_of% f81r10.eq_1 := by_rfl f81r10.eq_1
@[simp] theorem e81r11 : type_of% f81r11.eq_1 := by_rfl f81r11.eq_1
@[simp] theorem e81r12 : type_of% f81r12.eq_1 := by_rfl f81r12.eq_1
@[simp] theorem e81r14 : type_of% f81r14.eq_1 := by_rfl f81r14.eq_1
@[simp] theorem e81r16 : type_of% f81r16.eq_1 := by_rfl f81r16.eq_1
theorem e_ref02_ModelsFault_l13 : type_of% f_ref02_ModelsFault_l13.eq_1 := by_rfl f_ref02_ModelsFault_l13.eq_1
theorem e_ref02_ModelsFault_l15 : type_of% f_ref02_ModelsFault_l15.eq_1 := by_rfl f_ref02_ModelsFault_l15.eq_1
theorem e_ref02_ModelsFault : type_of% f_ref02_ModelsFault.eq_1 := by_rfl f_ref02_ModelsFault.eq_1
theorem ok_ref02_ModelsFault : fnC Tryz.prog a_ref02_ModelsFault Tryz.f81 = some f_ref02_ModelsFault := by kernel_rfl

/-! 82 fumarole/fumaroleref05.Fits -/
def f82r0 : List Abs.Op := [
  ⟨some 2, none, false, .boxi (.t 0)⟩,
  ⟨some 3, none, false, .boxi (.t 1)⟩,
  ⟨some 4, none, false, .mv (.c (.bool false))⟩]

def f82r1 : List Abs.Op := [
  ⟨some 6, none, false, .fadr 0 (.t 2)⟩,
  ⟨some 7, none, false, .ld true 4 (.t 6)⟩,
  ⟨some 8, none, false, .ld true 2 (.t 3)⟩,
  ⟨some 9, none, false, .call false (.c (.fn i_ref02_ModelFault [] [])) [(.t 7), (.t 8)]⟩,
  ⟨some 10, none, false, .bin .neq (.t 9) (.c (.int .i64 0))⟩]

def f82r2 : List Abs.Op := [
  ⟨some 4, none, false, .mv (.c (.bool false))⟩]

def f82r3 : List Abs.Op := [
  ⟨some 5, none, false, .mv (.c (.int .i64 0))⟩]

def f82r4 : List Abs.Op := [
  ⟨some 11, none, false, .mv (.t 5)⟩,
  ⟨some 12, none, false, .fadr 0 (.t 2)⟩,
  ⟨some 13, none, false, .ld true 4 (.t 12)⟩,
  ⟨some 14, none, false, .call false (.c (.fn i_ref02_Size [] [])) [(.t 13)]⟩,
  ⟨some 15, none, false, .bin .lss (.t 11) (.t 14)⟩]

def f82r5 : List Abs.Op := [
  ⟨some 18, none, false, .ld true 9 (.t 2)⟩,
  ⟨some 19, none, false, .ld true 2 (.t 3)⟩,
  ⟨some 20, none, false, .mv (.t 5)⟩,
  ⟨some 21, none, false, .call false (.c (.fn i_ref05_Value [] [])) [(.t 18), (.t 19), (.c (.int .i64 0)), (.t 20)]⟩,
  ⟨some 22, none, false, .call false (.c (.fn i_ref01_In [] [])) [(.t 21), (.c (.int .i64 1000)), (.c (.int .i64 100000))]⟩,
  ⟨some 23, none, false, .un .not (.t 22)⟩,
  ⟨some 24, none, false, .mv (.t 23)⟩,
  ⟨some 25, some (24, false), false, .ld true 9 (.t 2)⟩,
  ⟨some 26, some (24, false), false, .ld true 2 (.t 3)⟩,
  ⟨some 27, some (24, false), false, .mv (.t 5)⟩,
  ⟨some 28, some (24, false), false, .call false (.c (.fn i_ref05_Value [] [])) [(.t 25), (.t 26), (.c (.int .i64 1)), (.t 27)]⟩,
  ⟨some 29, some (24, false), false, .call false (.c (.fn i_ref01_In [] [])) [(.t 28), (.c (.int .i64 0)), (.c (.int .i64 1000))]⟩,
  ⟨some 30, some (24, false), false, .un .not (.t 29)⟩,
  ⟨some 31, none, false, .pick (.t 24) (.c (.bool true)) (.t 30)⟩,
  ⟨some 32, none, false, .mv (.t 31)⟩,
  ⟨some 33, some (32, false), false, .ld true 9 (.t 2)⟩,
  ⟨some 34, some (32, false), false, .ld true 2 (.t 3)⟩,
  ⟨some 35, some (32, false), false, .mv (.t 5)⟩,
  ⟨some 36, some (32, false), false, .call false (.c (.fn i_ref05_Value [] [])) [(.t 33), (.t 34), (.c (.int .i64 2)), (.t 35)]⟩,
  ⟨some 37, some (32, false), false, .call false (.c (.fn i_ref01_In [] [])) [(.t 36), (.c (.int .i64 0)), (.c (.int .i64 3000))]⟩,
  ⟨some 38, some (32, false), false, .un .not (.t 37)⟩,
  ⟨some 39, none, false, .pick (.t 32) (.c (.bool true)) (.t 38)⟩,
  ⟨some 40, none, false, .mv (.t 39)⟩,
  ⟨some 41, some (40, false), false, .ld true 9 (.t 2)⟩,
  ⟨some 42, some (40, false), false, .ld true 2 (.t 3)⟩,
  ⟨some 43, some (40, false), false, .mv (.t 5)⟩,
  ⟨some 44, some (40, false), false, .call false (.c (.fn i_ref05_Value [] [])) [(.t 41), (.t 42), (.c (.int .i64 3)), (.t 43)]⟩,
  ⟨some 45, some (40, false), false, .call false (.c (.fn i_ref01_In [] [])) [(.t 44), (.c (.int .i64 0)), (.c (.int .i64 1000))]⟩,
  ⟨some 46, some (40, false), false, .un .not (.t 45)⟩,
  ⟨some 47, none, false, .pick (.t 40) (.c (.bool true)) (.t 46)⟩]

def f82r6 : List Abs.Op := [
  ⟨some 4, none, false, .mv (.c (.bool false))⟩]

def f82r7 : List Abs.Op := [
  ⟨some 16, none, false, .mv (.t 5)⟩,
  ⟨some 17, none, false, .bin .add (.t 16) (.c (.int .i64 1))⟩,
  ⟨some 5, none, false, .mv (.t 17)⟩]

def f_ref05_Fits_l8 : Abs.Cmd :=
  (.seq (.seq (.reg [2, 3, 5, 15] f82r4) (.ite (.t 15) .nop (.exit 0))) (.seq (.blk 1 (.seq (.reg [2, 3, 5, 47] f82r5) (.ite (.t 47) (.seq (.reg [4] f82r6) .ret) .nop))) (.reg [2, 3, 5] f82r7)))

def f82r9 : List Abs.Op := [
  ⟨some 4, none, false, .mv (.c (.bool true))⟩]

def a_ref05_Fits : Ann := ⟨[(8, [4]), (5, [2, 3, 5]), (7, [4]), (6, [2, 3, 5, 47]), (4, [2, 3, 5, 15]), (3, [2, 3, 5]), (2, [4]), (1, [2, 3, 10]), (0, [2, 3])], [(0, [2, 3, 5])], [], [], [], [], [], [], [], [], []⟩
def f_ref05_Fits : Abs.Fn := ⟨2, [.t 4],
  (.seq (.reg [2, 3] f82r0) (.seq (.seq (.reg [2, 3, 10] f82r1) (.ite (.t 10) (.seq (.reg [4] f82r2) .ret) .nop)) (.seq (.seq (.reg [2, 3, 5] f82r3) (.blk 0 (.loop [2, 3, 5] false f_ref05_Fits_l8))) (.seq (.reg [4] f82r9) .ret))))⟩

@[simp] theorem e82r0 : type_of% f82r0.eq_1 := by_rfl f82r0.eq_1
@[simp] theorem e82r1 : type_of% f82r1.eq_1 := by_rfl f82r1.eq_1
@[simp] theorem e82r2 : type_of% f82r2.eq_1 := by_rfl f82r2.eq_1
@[simp] theorem e82r3 : type_of% f82r3.eq_1 := by_rfl f82r3.eq_1
@[simp] theorem e82r4 : type_of% f82r4.eq_1 := by_rfl f82r4.eq_1
@[simp] theorem e82r5 : type_of% f82r5.eq_1 := by_rfl f82r5.eq_1
@[simp] theorem e82r6 : type_of% f82r6.eq_1 := by_rfl f82r6.eq_1
@[simp] theorem e82r7 : type_of% f82r7.eq_1 := by_rfl f82r7.eq_1
@[simp] theorem e82r9 : type_of% f82r9.eq_1 := by_rfl f82r9.eq_1
theorem e_ref05_Fits_l8 : type_of% f_ref05_Fits_l8.eq_1 := by_rfl f_ref05_Fits_l8.eq_1
theorem e_ref05_Fits : type_of% f_ref05_Fits.eq_1 := by_rfl f_ref05_Fits.eq_1
theorem ok_ref05_Fits : fnC Tryz.prog a_ref05_Fits Tryz.f82 = some f_ref05_Fits := by kernel_rfl

/-! 83 fumarole/fumaroleref05.RatesFault -/
def f83r0 : List Abs.Op := [
  ⟨some 2, none, false, .boxi (.t 0)⟩,
  ⟨some 4, none, false, .mv (.c (.int .i64 0))⟩]

def f83r1 : List Abs.Op := [
  ⟨some 6, none, false, .mv (.t 1)⟩,
  ⟨some 7, none, false, .lenS (.t 6)⟩,
  ⟨some 8, none, false, .fadr 8 (.t 2)⟩,
  ⟨some 9, none, false, .ld false 1 (.t 8)⟩,
  ⟨some 10, none, false, .lenS (.t 9)⟩,
  ⟨some 11, none, false, .bin .neq (.t 7) (.t 10)⟩]

def f83r2 : List Abs.Op := [
  ⟨some 4, none, false, .mv (.c (.int .i64 1))⟩]

def f83r3 : List Abs.Op := [
  ⟨some 5, none, false, .mv (.c (.int .i64 0))⟩]

def f83r4 : List Abs.Op := [
  ⟨some 12, none, false, .mv (.t 5)⟩,
  ⟨some 13, none, false, .mv (.t 1)⟩,
  ⟨some 14, none, false, .lenS (.t 13)⟩,
  ⟨some 15, none, false, .bin .lss (.t 12) (.t 14)⟩]

def f83r5 : List Abs.Op := [
  ⟨some 18, none, false, .mv (.t 1)⟩,
  ⟨some 19, none, false, .mv (.t 5)⟩,
  ⟨some 20, none, false, .idxS 1 (.t 18) (.t 19)⟩,
  ⟨some 21, none, false, .ld false 1 (.t 20)⟩,
  ⟨some 22, none, false, .call false (.c (.fn i_ref01_In [] [])) [(.t 21), (.c (.int .i64 (-100000))), (.c (.int .i64 100000))]⟩,
  ⟨some 23, none, false, .un .not (.t 22)⟩]

def f83r6 : List Abs.Op := [
  ⟨some 4, none, false, .mv (.c (.int .i64 2))⟩]

def f83r7 : List Abs.Op := [
  ⟨some 16, none, false, .mv (.t 5)⟩,
  ⟨some 17, none, false, .bin .add (.t 16) (.c (.int .i64 1))⟩,
  ⟨some 5, none, false, .mv (.t 17)⟩]

def f_ref05_RatesFault_l8 : Abs.Cmd :=
  (.seq (.seq (.reg [1, 5, 15] f83r4) (.ite (.t 15) .nop (.exit 0))) (.seq (.blk 1 (.seq (.reg [1, 5, 23] f83r5) (.ite (.t 23) (.seq (.reg [4] f83r6) .ret) .nop))) (.reg [1, 5] f83r7)))

def f83r9 : List Abs.Op := [
  ⟨some 4, none, false, .mv (.c (.int .i64 0))⟩]

def a_ref05_RatesFault : Ann := ⟨[(8, [4]), (5, [1, 5]), (7, [4]), (6, [1, 5, 23]), (4, [1, 5, 15]), (3, [1, 5]), (2, [4]), (1, [1, 11]), (0, [1, 2])], [(0, [1, 5])], [], [], [], [], [], [], [], [], []⟩
def f_ref05_RatesFault : Abs.Fn := ⟨2, [.t 4],
  (.seq (.reg [1, 2] f83r0) (.seq (.seq (.reg [1, 11] f83r1) (.ite (.t 11) (.seq (.reg [4] f83r2) .ret) .nop)) (.seq (.seq (.reg [1, 5] f83r3) (.blk 0 (.loop [1, 5] false f_ref05_RatesFault_l8))) (.seq (.reg [4] f83r9) .ret))))⟩

@[simp] theorem e83r0 : type_of% f83r0.eq_1 := by_rfl f83r0.eq_1
@[simp] theorem e83r1 : type_of% f83r1.eq_1 := by_rfl f83r1.eq_1
@[simp] theorem e83r2 : type_of% f83r2.eq_1 := by_rfl f83r2.eq_1
@[simp] theorem e83r3 : type_of% f83r3.eq_1 := by_rfl f83r3.eq_1
@[simp] theorem e83r4 : type_of% f83r4.eq_1 := by_rfl f83r4.eq_1
@[simp] theorem e83r5 : type_of% f83r5.eq_1 := by_rfl f83r5.eq_1
@[simp] theorem e83r6 : type_of% f83r6.eq_1 := by_rfl f83r6.eq_1
@[simp] theorem e83r7 : type_of% f83r7.eq_1 := by_rfl f83r7.eq_1
@[simp] theorem e83r9 : type_of% f83r9.eq_1 := by_rfl f83r9.eq_1
theorem e_ref05_RatesFault_l8 : type_of% f_ref05_RatesFault_l8.eq_1 := by_rfl f_ref05_RatesFault_l8.eq_1
theorem e_ref05_RatesFault : type_of% f_ref05_RatesFault.eq_1 := by_rfl f_ref05_RatesFault.eq_1
theorem ok_ref05_RatesFault : fnC Tryz.prog a_ref05_RatesFault Tryz.f83 = some f_ref05_RatesFault := by kernel_rfl

/-! 84 (fumarole/rock.Bed).valid -/
def f84r0 : List Abs.Op := [
  ⟨some 1, none, false, .boxi (.t 0)⟩,
  ⟨some 2, none, false, .mv (.c (.bool false))⟩]

def f84r1 : List Abs.Op := [
  ⟨some 4, none, false, .fadr 0 (.t 1)⟩,
  ⟨some 5, none, false, .ld true 4 (.t 4)⟩,
  ⟨some 6, none, false, .call false (.c (.fn i_field_CheckField [] [])) [(.t 5)]⟩,
  ⟨some 7, none, false, .bin .neq (.t 6) (.c (.int .i64 0))⟩,
  ⟨some 8, none, false, .mv (.t 7)⟩,
  ⟨some 9, some (8, false), false, .fadr 0 (.t 1)⟩,
  ⟨some 10, some (8, false), false, .fadr 3 (.t 9)⟩,
  ⟨some 11, some (8, false), false, .ld false 1 (.t 10)⟩,
  ⟨some 12, some (8, false), false, .bin .lss (.t 11) (.c (.int .i64 4))⟩,
  ⟨some 13, none, false, .pick (.t 8) (.c (.bool true)) (.t 12)⟩,
  ⟨some 14, none, false, .mv (.t 13)⟩,
  ⟨some 15, some (14, false), false, .fadr 4 (.t 1)⟩,
  ⟨some 16, some (14, false), false, .ld false 1 (.t 15)⟩,
  ⟨some 17, some (14, false), false, .call false (.c (.fn i_steam_CheckTable [] [])) [(.t 16)]⟩,
  ⟨some 18, some (14, false), false, .bin .neq (.t 17) (.c (.int .i64 0))⟩,
  ⟨some 19, none, false, .pick (.t 14) (.c (.bool true)) (.t 18)⟩,
  ⟨some 20, none, false, .mv (.t 19)⟩,
  ⟨some 21, some (20, false), false, .fadr 5 (.t 1)⟩,
  ⟨some 22, some (20, false), false, .ld false 1 (.t 21)⟩,
  ⟨some 23, some (20, false), false, .call false (.c (.fn i_rock_within [] [])) [(.t 22), (.c (.int .i64 1)), (.c (.int .i64 100000))]⟩,
  ⟨some 24, some (20, false), false, .un .not (.t 23)⟩,
  ⟨some 25, none, false, .pick (.t 20) (.c (.bool true)) (.t 24)⟩,
  ⟨some 26, none, false, .mv (.t 25)⟩,
  ⟨some 27, some (26, false), false, .fadr 6 (.t 1)⟩,
  ⟨some 28, some (26, false), false, .ld false 1 (.t 27)⟩,
  ⟨some 29, some (26, false), false, .call false (.c (.fn i_rock_within [] [])) [(.t 28), (.c (.int .i64 0)), (.c (.int .i64 1000))]⟩,
  ⟨some 30, some (26, false), false, .un .not (.t 29)⟩,
  ⟨some 31, none, false, .pick (.t 26) (.c (.bool true)) (.t 30)⟩,
  ⟨some 32, none, false, .mv (.t 31)⟩,
  ⟨some 33, some (32, false), false, .fadr 7 (.t 1)⟩,
  ⟨some 34, some (32, false), false, .ld false 1 (.t 33)⟩,
  ⟨some 35, some (32, false), false, .call false (.c (.fn i_rock_within [] [])) [(.t 34), (.c (.int .i64 0)), (.c (.int .i64 3000))]⟩,
  ⟨some 36, some (32, false), false, .un .not (.t 35)⟩,
  ⟨some 37, none, false, .pick (.t 32) (.c (.bool true)) (.t 36)⟩,
  ⟨some 38, none, false, .mv (.t 37)⟩,
  ⟨some 39, some (38, false), false, .fadr 8 (.t 1)⟩,
  ⟨some 40, some (38, false), false, .ld false 1 (.t 39)⟩,
  ⟨some 41, some (38, false), false, .lenS (.t 40)⟩,
  ⟨some 42, some (38, false), false, .bin .gtr (.t 41) (.c (.int .i64 8))⟩,
  ⟨some 43, none, false, .pick (.t 38) (.c (.bool true)) (.t 42)⟩]

def f84r2 : List Abs.Op := [
  ⟨some 2, none, false, .mv (.c (.bool false))⟩]

def f84r3 : List Abs.Op := [
  ⟨some 44, none, false, .ld true 9 (.t 1)⟩,
  ⟨some 45, none, false, .call false (.c (.fn i_rock_Bed_size [] [])) [(.t 44)]⟩,
  ⟨some 46, none, false, .mks 1 1 [(.bool false)] (.t 45) (.t 45)⟩,
  ⟨some 3, none, false, .alc [] [.nils]⟩,
  ⟨none, none, false, .st [] 1 (.t 3) (.t 46)⟩]

def f84r4 : List Abs.Op := [
  ⟨some 47, none, false, .fadr 8 (.t 1)⟩,
  ⟨some 48, none, false, .ld false 1 (.t 47)⟩,
  ⟨some 49, none, false, .mkf i_rock_Bed_valid_1 [] [(.t 3)]⟩,
  ⟨some 50, none, false, .call false (.c (.fn i_rock_all_rock_Bore [] [])) [(.t 48), (.t 49)]⟩,
  ⟨some 2, none, false, .mv (.t 50)⟩]

def a_rock_Bed_valid : Ann := ⟨[(4, [2]), (3, [1, 3]), (2, [2]), (1, [1, 43]), (0, [1])], [], [], [3], [], [], [], [], [], [], []⟩
def f_rock_Bed_valid : Abs.Fn := ⟨1, [.t 2],
  (.seq (.reg [1] f84r0) (.seq (.seq (.reg [1, 43] f84r1) (.ite (.t 43) (.seq (.reg [2] f84r2) .ret) .nop)) (.seq (.reg [1, 3] f84r3) (.seq (.reg [2] f84r4) .ret))))⟩

@[simp] theorem e84r0 : type_of% f84r0.eq_1 := by_rfl f84r0.eq_1
@[simp] theorem e84r1 : type_of% f84r1.eq_1 := by_rfl f84r1.eq_1
@[simp] theorem e84r2 : type_of% f84r2.eq_1 := by_rfl f84r2.eq_1
@[simp] theorem e84r3 : type_of% f84r3.eq_1 := by_rfl f84r3.eq_1
@[simp] theorem e84r4 : type_of% f84r4.eq_1 := by_rfl f84r4.eq_1
theorem e_rock_Bed_valid : type_of% f_rock_Bed_valid.eq_1 := by_rfl f_rock_Bed_valid.eq_1
theorem ok_rock_Bed_valid : fnC Tryz.prog a_rock_Bed_valid Tryz.f84 = some f_rock_Bed_valid := by kernel_rfl

/-! 85 fumarole/field.CheckModels -/
def f85r0 : List Abs.Op := [
  ⟨some 2, none, false, .boxi (.t 0)⟩,
  ⟨some 3, none, false, .boxi (.t 1)⟩,
  ⟨some 4, none, false, .mv (.c (.int .i64 0))⟩]

def f85r1 : List Abs.Op := [
  ⟨some 5, none, false, .ld true 4 (.t 2)⟩,
  ⟨some 6, none, false, .mkf i_field_Field_shape [(.t 5)] []⟩,
  ⟨some 7, none, false, .mkf i_field_CheckModels_1 [] [(.t 2), (.t 3)]⟩,
  ⟨some 8, none, false, .bsi 2 1 [.nilf, .nilf] [(0, 1, (.t 6)), (1, 1, (.t 7))]⟩,
  ⟨some 9, none, false, .call false (.c (.fn i_field_first [] [])) [(.t 8)]⟩,
  ⟨some 4, none, false, .mv (.t 9)⟩]

def a_field_CheckModels : Ann := ⟨[(1, [4]), (0, [2, 3])], [], [], [], [], [], [], [], [], [], []⟩
def f_field_CheckModels : Abs.Fn := ⟨2, [.t 4],
  (.seq (.reg [2, 3] f85r0) (.seq (.reg [4] f85r1) .ret))⟩

@[simp] theorem e85r0 : type_of% f85r0.eq_1 := by_rfl f85r0.eq_1
@[simp] theorem e85r1 : type_of% f85r1.eq_1 := by_rfl f85r1.eq_1
theorem e_field_CheckModels : type_of% f_field_CheckModels.eq_1 := by_rfl f_field_CheckModels.eq_1
theorem ok_field_CheckModels : fnC Tryz.prog a_field_CheckModels Tryz.f85 = some f_field_CheckModels := by kernel_rfl

/-! 86 fumarole/rock.all[fumarole/field.Model] -/
def f86r0 : List Abs.Op := [
  ⟨some 3, none, false, .boxi (.t 1)⟩,
  ⟨some 4, none, false, .mv (.c (.bool false))⟩]

def f86r1 : List Abs.Op := [
  ⟨some 5, none, false, .mv (.t 0)⟩,
  ⟨some 6, none, false, .mkf i_rock_all_field_Model_1 [] [(.t 3)]⟩,
  ⟨some 7, none, false, .call false (.c (.fn i_slices_ContainsFunc_field_Model [] [])) [(.t 5), (.t 6)]⟩,
  ⟨some 8, none, false, .un .not (.t 7)⟩,
  ⟨some 4, none, false, .mv (.t 8)⟩]

def a_rock_all_field_Model : Ann := ⟨[(1, [4]), (0, [0, 3])], [], [], [], [], [], [], [], [], [], []⟩
def f_rock_all_field_Model : Abs.Fn := ⟨2, [.t 4],
  (.seq (.reg [0, 3] f86r0) (.seq (.reg [4] f86r1) .ret))⟩

@[simp] theorem e86r0 : type_of% f86r0.eq_1 := by_rfl f86r0.eq_1
@[simp] theorem e86r1 : type_of% f86r1.eq_1 := by_rfl f86r1.eq_1
theorem e_rock_all_field_Model : type_of% f_rock_all_field_Model.eq_1 := by_rfl f_rock_all_field_Model.eq_1
theorem ok_rock_all_field_Model : fnC Tryz.prog a_rock_all_field_Model Tryz.f86 = some f_rock_all_field_Model := by kernel_rfl

/-! 87 fumarole/rock.ready$1 -/
def f87r0 : List Abs.Op := [
  ⟨some 2, none, false, .boxi (.t 0)⟩,
  ⟨some 3, none, false, .mv (.c (.bool false))⟩]

def f87r1 : List Abs.Op := [
  ⟨some 4, none, false, .ld true 9 (.t 1)⟩,
  ⟨some 5, none, false, .ld true 2 (.t 2)⟩,
  ⟨some 6, none, false, .bld [(.int .i64 0), (.int .i64 0), (.int .i64 0), (.int .i64 0), .nils, (.int .i64 0), (.int .i64 0), (.int .i64 0), .nils, (.str []), .nils] [(0, 9, (.t 4)), (9, 2, (.t 5))]⟩,
  ⟨some 7, none, false, .call false (.c (.fn i_rock_bedded_fits [] [])) [(.t 6)]⟩,
  ⟨some 3, none, false, .mv (.t 7)⟩]

def a_rock_ready_1 : Ann := ⟨[(1, [3]), (0, [1, 2])], [], [], [], [], [], [], [], [], [], []⟩
def f_rock_ready_1 : Abs.Fn := ⟨2, [.t 3],
  (.seq (.reg [1, 2] f87r0) (.seq (.reg [3] f87r1) .ret))⟩

@[simp] theorem e87r0 : type_of% f87r0.eq_1 := by_rfl f87r0.eq_1
@[simp] theorem e87r1 : type_of% f87r1.eq_1 := by_rfl f87r1.eq_1
theorem e_rock_ready_1 : type_of% f_rock_ready_1.eq_1 := by_rfl f_rock_ready_1.eq_1
theorem ok_rock_ready_1 : fnC Tryz.prog a_rock_ready_1 Tryz.f87 = some f_rock_ready_1 := by kernel_rfl

/-! 88 (fumarole/rock.bedded).fits -/
def f88r0 : List Abs.Op := [
  ⟨some 1, none, false, .boxi (.t 0)⟩,
  ⟨some 2, none, false, .mv (.c (.bool false))⟩]

def f88r1 : List Abs.Op := [
  ⟨some 5, none, false, .fadr 0 (.t 1)⟩,
  ⟨some 6, none, false, .fadr 0 (.t 5)⟩,
  ⟨some 7, none, false, .ld true 4 (.t 6)⟩,
  ⟨some 8, none, false, .fadr 9 (.t 1)⟩,
  ⟨some 9, none, false, .ld true 2 (.t 8)⟩,
  ⟨some 10, none, false, .bsi 1 2 [(.str []), .nils] [(0, 2, (.t 9))]⟩,
  ⟨some 11, none, false, .call false (.c (.fn i_field_CheckModels [] [])) [(.t 7), (.t 10)]⟩,
  ⟨some 12, none, false, .bin .neq (.t 11) (.c (.int .i64 0))⟩]

def f88r2 : List Abs.Op := [
  ⟨some 2, none, false, .mv (.c (.bool false))⟩]

def f88r3 : List Abs.Op := [
  ⟨some 13, none, false, .bld [(.int .i64 0), (.int .i64 0)] [(0, 1, (.c (.int .i64 1000))), (1, 1, (.c (.int .i64 100000)))]⟩,
  ⟨some 14, none, false, .bld [(.int .i64 0), (.int .i64 0)] [(0, 1, (.c (.int .i64 0))), (1, 1, (.c (.int .i64 1000)))]⟩,
  ⟨some 15, none, false, .bld [(.int .i64 0), (.int .i64 0)] [(0, 1, (.c (.int .i64 0))), (1, 1, (.c (.int .i64 3000)))]⟩,
  ⟨some 16, none, false, .bld [(.int .i64 0), (.int .i64 0)] [(0, 1, (.c (.int .i64 0))), (1, 1, (.c (.int .i64 1000)))]⟩,
  ⟨some 17, none, false, .bld [(.int .i64 0), (.int .i64 0), (.int .i64 0), (.int .i64 0), (.int .i64 0), (.int .i64 0), (.int .i64 0), (.int .i64 0)] [(0, 2, (.t 13)), (2, 2, (.t 14)), (4, 2, (.t 15)), (6, 2, (.t 16))]⟩,
  ⟨some 18, none, false, .mv (.c (.int .i64 0))⟩]

def f88r4 : List Abs.Op := [
  ⟨some 19, none, false, .bin .lss (.t 18) (.c (.int .i64 4))⟩]

def f88r5 : List Abs.Op := [
  ⟨some 20, none, false, .mv (.t 18)⟩,
  ⟨some 21, none, false, .idxV true 4 2 (.t 17) (.t 18)⟩,
  ⟨some 4, none, false, .alc [] [(.int .i64 0), (.int .i64 0)]⟩,
  ⟨some 3, none, false, .mv (.t 20)⟩,
  ⟨none, none, false, .st [] 2 (.t 4) (.t 21)⟩]

def f88r6 : List Abs.Op := [
  ⟨some 22, none, false, .ld true 11 (.t 1)⟩,
  ⟨some 23, none, false, .mv (.t 3)⟩,
  ⟨some 24, none, false, .call false (.c (.fn i_rock_bedded_kind [] [])) [(.t 22), (.t 23)]⟩,
  ⟨some 25, none, false, .mkf i_rock_bedded_fits_1 [] [(.t 4)]⟩,
  ⟨some 26, none, false, .call false (.c (.fn i_rock_all_int [] [])) [(.t 24), (.t 25)]⟩,
  ⟨some 27, none, false, .un .not (.t 26)⟩]

def f88r7 : List Abs.Op := [
  ⟨some 2, none, false, .mv (.c (.bool false))⟩]

def f88r8 : List Abs.Op := [
  ⟨some 28, none, false, .bin .add (.t 18) (.c (.int .i64 1))⟩,
  ⟨some 18, none, false, .mv (.t 28)⟩]

def f_rock_bedded_fits_l9 : Abs.Cmd :=
  (.seq (.reg [1, 17, 18, 19] f88r4) (.seq (.ite (.t 19) .nop (.exit 0)) (.seq (.blk 1 (.seq (.reg [1, 3, 4, 17, 18] f88r5) (.seq (.reg [1, 17, 18, 27] f88r6) (.ite (.t 27) (.seq (.reg [2] f88r7) .ret) .nop)))) (.reg [1, 17, 18] f88r8))))

def f88r10 : List Abs.Op := [
  ⟨some 2, none, false, .mv (.c (.bool true))⟩]

def a_rock_bedded_fits : Ann := ⟨[(9, [2]), (8, [1, 17, 18]), (7, [2]), (6, [1, 17, 18, 27]), (5, [1, 3, 4, 17, 18]), (4, [1, 17, 18, 19]), (3, [1, 17, 18]), (2, [2]), (1, [1, 12]), (0, [1])], [(0, [1, 17, 18])], [0], [4], [], [], [], [], [], [], []⟩
def f_rock_bedded_fits : Abs.Fn := ⟨1, [.t 2],
  (.seq (.reg [1] f88r0) (.seq (.seq (.reg [1, 12] f88r1) (.ite (.t 12) (.seq (.reg [2] f88r2) .ret) .nop)) (.seq (.seq (.reg [1, 17, 18] f88r3) (.blk 0 (.loop [1, 17, 18] true f_rock_bedded_fits_l9))) (.seq (.reg [2] f88r10) .ret))))⟩

@[simp] theorem e88r0 : type_of% f88r0.eq_1 := by_rfl f88r0.eq_1
@[simp] theorem e88r1 : type_of% f88r1.eq_1 := by_rfl f88r1.eq_1
@[simp] theorem e88r2 : type_of% f88r2.eq_1 := by_rfl f88r2.eq_1
@[simp] theorem e88r3 : type_of% f88r3.eq_1 := by_rfl f88r3.eq_1
@[simp] theorem e88r4 : type_of% f88r4.eq_1 := by_rfl f88r4.eq_1
@[simp] theorem e88r5 : type_of% f88r5.eq_1 := by_rfl f88r5.eq_1
@[simp] theorem e88r6 : type_of% f88r6.eq_1 := by_rfl f88r6.eq_1
@[simp] theorem e88r7 : type_of% f88r7.eq_1 := by_rfl f88r7.eq_1
@[simp] theorem e88r8 : type_of% f88r8.eq_1 := by_rfl f88r8.eq_1
@[simp] theorem e88r10 : type_of% f88r10.eq_1 := by_rfl f88r10.eq_1
theorem e_rock_bedded_fits_l9 : type_of% f_rock_bedded_fits_l9.eq_1 := by_rfl f_rock_bedded_fits_l9.eq_1
theorem e_rock_bedded_fits : type_of% f_rock_bedded_fits.eq_1 := by_rfl f_rock_bedded_fits.eq_1
theorem ok_rock_bedded_fits : fnC Tryz.prog a_rock_bedded_fits Tryz.f88 = some f_rock_bedded_fits := by kernel_rfl

/-! 89 (fumarole/rock.bedded).weight -/
def f89r0 : List Abs.Op := [
  ⟨some 2, none, false, .boxi (.t 0)⟩,
  ⟨some 4, none, false, .mv (.c (.int .i64 0))⟩]

def f89r1 : List Abs.Op := [
  ⟨some 5, none, true, .mv (.t 1)⟩,
  ⟨some 6, none, true, .fadr 0 (.t 2)⟩,
  ⟨some 7, none, true, .fadr 0 (.t 6)⟩,
  ⟨some 8, none, true, .fadr 0 (.t 7)⟩,
  ⟨some 9, none, true, .ld false 1 (.t 8)⟩,
  ⟨some 10, none, true, .fadr 0 (.t 2)⟩,
  ⟨some 11, none, true, .fadr 0 (.t 10)⟩,
  ⟨some 12, none, true, .fadr 1 (.t 11)⟩,
  ⟨some 13, none, true, .ld false 1 (.t 12)⟩,
  ⟨some 14, none, true, .bin .mul (.t 9) (.t 13)⟩,
  ⟨some 15, none, true, .bin .quo (.t 5) (.t 14)⟩,
  ⟨some 16, none, true, .fadr 0 (.t 2)⟩,
  ⟨some 17, none, true, .fadr 6 (.t 16)⟩,
  ⟨some 18, none, true, .ld false 1 (.t 17)⟩,
  ⟨some 19, none, false, .bin .mul (.t 15) (.t 18)⟩,
  ⟨some 4, none, false, .mv (.t 19)⟩]

def a_rock_bedded_weight : Ann := ⟨[(1, [4]), (0, [1, 2])], [], [], [], [], [], [], [], [], [], []⟩
def f_rock_bedded_weight : Abs.Fn := ⟨2, [.t 4],
  (.seq (.reg [1, 2] f89r0) (.seq (.reg [4] f89r1) .ret))⟩

@[simp] theorem e89r0 : type_of% f89r0.eq_1 := by_rfl f89r0.eq_1
@[simp] theorem e89r1 : type_of% f89r1.eq_1 := by_rfl f89r1.eq_1
theorem e_rock_bedded_weight : type_of% f_rock_bedded_weight.eq_1 := by_rfl f_rock_bedded_weight.eq_1
theorem ok_rock_bedded_weight : fnC Tryz.prog a_rock_bedded_weight Tryz.f89 = some f_rock_bedded_weight := by kernel_rfl

/-! 90 fumarole/rock.down -/
def f90r0 : List Abs.Op := [
  ⟨some 4, none, false, .mv (.c (.int .i64 0))⟩]

def f90r1 : List Abs.Op := [
  ⟨some 6, none, false, .mv (.t 0)⟩,
  ⟨some 7, none, false, .mv (.t 1)⟩,
  ⟨some 8, none, false, .bin .quo (.t 6) (.t 7)⟩,
  ⟨some 5, none, false, .mv (.t 8)⟩]

def f90r2 : List Abs.Op := [
  ⟨some 9, none, false, .mv (.t 5)⟩,
  ⟨some 10, none, false, .mv (.t 1)⟩,
  ⟨some 11, none, false, .bin .mul (.t 9) (.t 10)⟩,
  ⟨some 12, none, false, .mv (.t 0)⟩,
  ⟨some 13, none, false, .bin .gtr (.t 11) (.t 12)⟩]

def f90r3 : List Abs.Op := [
  ⟨some 14, none, false, .mv (.t 5)⟩,
  ⟨some 15, none, false, .bin .sub (.t 14) (.c (.int .i64 1))⟩,
  ⟨some 5, none, false, .mv (.t 15)⟩]

def f90r4 : List Abs.Op := [
  ⟨some 16, none, false, .mv (.t 5)⟩,
  ⟨some 4, none, false, .mv (.t 16)⟩]

def a_rock_down : Ann := ⟨[(4, [4]), (3, [5]), (2, [5, 13]), (1, [0, 1, 5]), (0, [0, 1])], [], [], [], [], [], [], [], [], [], []⟩
def f_rock_down : Abs.Fn := ⟨2, [.t 4],
  (.seq (.reg [0, 1] f90r0) (.seq (.reg [0, 1, 5] f90r1) (.seq (.seq (.reg [5, 13] f90r2) (.ite (.t 13) (.reg [5] f90r3) .nop)) (.seq (.reg [4] f90r4) .ret))))⟩

@[simp] theorem e90r0 : type_of% f90r0.eq_1 := by_rfl f90r0.eq_1
@[simp] theorem e90r1 : type_of% f90r1.eq_1 := by_rfl f90r1.eq_1
@[simp] theorem e90r2 : type_of% f90r2.eq_1 := by_rfl f90r2.eq_1
@[simp] theorem e90r3 : type_of% f90r3.eq_1 := by_rfl f90r3.eq_1
@[simp] theorem e90r4 : type_of% f90r4.eq_1 := by_rfl f90r4.eq_1
theorem e_rock_down : type_of% f_rock_down.eq_1 := by_rfl f_rock_down.eq_1
theorem ok_rock_down : fnC Tryz.prog a_rock_down Tryz.f90 = some f_rock_down := by kernel_rfl

/-! 91 (fumarole/rock.bedded).hold -/
def f91r0 : List Abs.Op := [
  ⟨some 2, none, false, .boxi (.t 0)⟩,
  ⟨some 4, none, false, .mv (.c (.int .i64 0))⟩]

def f91r1 : List Abs.Op := [
  ⟨some 5, none, false, .ld true 11 (.t 2)⟩,
  ⟨some 6, none, false, .call false (.c (.fn i_rock_bedded_kind [] [])) [(.t 5), (.c (.int .i64 0))]⟩,
  ⟨some 7, none, false, .mv (.t 1)⟩,
  ⟨some 8, none, false, .idxS 1 (.t 6) (.t 7)⟩,
  ⟨some 9, none, false, .ld false 1 (.t 8)⟩,
  ⟨some 4, none, false, .mv (.t 9)⟩]

def a_rock_bedded_hold : Ann := ⟨[(1, [4]), (0, [1, 2])], [], [], [], [], [], [], [], [], [], []⟩
def f_rock_bedded_hold : Abs.Fn := ⟨2, [.t 4],
  (.seq (.reg [1, 2] f91r0) (.seq (.reg [4] f91r1) .ret))⟩

@[simp] theorem e91r0 : type_of% f91r0.eq_1 := by_rfl f91r0.eq_1
@[simp] theorem e91r1 : type_of% f91r1.eq_1 := by_rfl f91r1.eq_1
theorem e_rock_bedded_hold : type_of% f_rock_bedded_hold.eq_1 := by_rfl f_rock_bedded_hold.eq_1
theorem ok_rock_bedded_hold : fnC Tryz.prog a_rock_bedded_hold Tryz.f91 = some f_rock_bedded_hold := by kernel_rfl

/-! 92 (fumarole/rock.Bed).rates -/
def f92r0 : List Abs.Op := [
  ⟨some 2, none, false, .boxi (.t 0)⟩,
  ⟨some 4, none, false, .mv (.c (.int .i64 0))⟩]

def f92r1 : List Abs.Op := [
  ⟨some 6, none, false, .mv (.t 1)⟩,
  ⟨some 7, none, false, .lenS (.t 6)⟩,
  ⟨some 8, none, false, .fadr 8 (.t 2)⟩,
  ⟨some 9, none, false, .ld false 1 (.t 8)⟩,
  ⟨some 10, none, false, .lenS (.t 9)⟩,
  ⟨some 11, none, false, .bin .neq (.t 7) (.t 10)⟩,
  ⟨some 5, none, false, .mv (.t 11)⟩]

def f92r2 : List Abs.Op := [
  ⟨some 4, none, false, .mv (.c (.int .i64 1))⟩]

def f92r3 : List Abs.Op := [
  ⟨some 13, none, false, .mv (.t 1)⟩,
  ⟨some 14, none, false, .call false (.c (.fn i_rock_all_int [] [])) [(.t 13), (.c (.fn i_rock_Bed_rates_1 [] []))]⟩,
  ⟨some 15, none, false, .un .not (.t 14)⟩,
  ⟨some 12, none, false, .mv (.t 15)⟩]

def f92r4 : List Abs.Op := [
  ⟨some 4, none, false, .mv (.c (.int .i64 2))⟩]

def f92r5 : List Abs.Op := [
  ⟨some 4, none, false, .mv (.c (.int .i64 0))⟩]

def a_rock_Bed_rates : Ann := ⟨[(5, [4]), (2, [4]), (4, [4]), (3, [12]), (1, [1, 5]), (0, [1, 2])], [], [], [], [], [], [], [], [], [], []⟩
def f_rock_Bed_rates : Abs.Fn := ⟨2, [.t 4],
  (.seq (.reg [1, 2] f92r0) (.seq (.blk 0 (.seq (.reg [1, 5] f92r1) (.ite (.t 5) (.seq (.reg [4] f92r2) .ret) (.seq (.reg [12] f92r3) (.ite (.t 12) (.seq (.reg [4] f92r4) .ret) .nop))))) (.seq (.reg [4] f92r5) .ret)))⟩

@[simp] theorem e92r0 : type_of% f92r0.eq_1 := by_rfl f92r0.eq_1
@[simp] theorem e92r1 : type_of% f92r1.eq_1 := by_rfl f92r1.eq_1
@[simp] theorem e92r2 : type_of% f92r2.eq_1 := by_rfl f92r2.eq_1
@[simp] theorem e92r3 : type_of% f92r3.eq_1 := by_rfl f92r3.eq_1
@[simp] theorem e92r4 : type_of% f92r4.eq_1 := by_rfl f92r4.eq_1
@[simp] theorem e92r5 : type_of% f92r5.eq_1 := by_rfl f92r5.eq_1
theorem e_rock_Bed_rates : type_of% f_rock_Bed_rates.eq_1 := by_rfl f_rock_Bed_rates.eq_1
theorem ok_rock_Bed_rates : fnC Tryz.prog a_rock_Bed_rates Tryz.f92 = some f_rock_Bed_rates := by kernel_rfl

/-! 93 (fumarole/rock.bedded).first -/
def f93r0 : List Abs.Op := [
  ⟨some 1, none, false, .boxi (.t 0)⟩,
  ⟨some 2, none, false, .nilb 3⟩]

def f93r1 : List Abs.Op := [
  ⟨some 4, none, false, .fadr 0 (.t 1)⟩,
  ⟨some 5, none, false, .ld true 9 (.t 4)⟩,
  ⟨some 6, none, false, .call false (.c (.fn i_rock_Bed_size [] [])) [(.t 5)]⟩,
  ⟨some 7, none, false, .mv (.c (.int .i64 0))⟩]

def f93r2 : List Abs.Op := [
  ⟨some 8, none, false, .bin .lss (.t 7) (.t 6)⟩]

def f93r3 : List Abs.Op := [
  ⟨some 9, none, false, .mv (.t 7)⟩,
  ⟨some 3, none, false, .mv (.t 9)⟩]

def f93r4 : List Abs.Op := [
  ⟨some 10, none, true, .mv (.t 2)⟩,
  ⟨some 11, none, true, .ld true 11 (.t 1)⟩,
  ⟨some 12, none, true, .mv (.t 3)⟩,
  ⟨some 13, none, true, .call false (.c (.fn i_rock_bedded_hold [] [])) [(.t 11), (.t 12)]⟩,
  ⟨some 14, none, true, .ld true 11 (.t 1)⟩,
  ⟨some 15, none, true, .mv (.t 3)⟩,
  ⟨some 16, none, true, .call false (.c (.fn i_rock_bedded_hold [] [])) [(.t 14), (.t 15)]⟩,
  ⟨some 17, none, true, .ld true 11 (.t 1)⟩,
  ⟨some 18, none, true, .mv (.t 3)⟩,
  ⟨some 19, none, true, .call false (.c (.fn i_rock_bedded_warm [] [])) [(.t 17), (.t 18)]⟩,
  ⟨some 20, none, true, .bin .mul (.t 16) (.t 19)⟩,
  ⟨some 21, none, true, .bld [(.int .i64 0), (.int .i64 0), (.int .i64 0)] [(0, 1, (.t 13)), (1, 1, (.t 20))]⟩,
  ⟨some 22, none, true, .bsi 1 3 [(.int .i64 0), (.int .i64 0), (.int .i64 0)] [(0, 3, (.t 21))]⟩,
  ⟨some 23, none, false, .app 3 24 (.t 10) (.t 22)⟩,
  ⟨some 2, none, false, .mv (.t 23)⟩]

def f93r5 : List Abs.Op := [
  ⟨some 24, none, false, .bin .add (.t 7) (.c (.int .i64 1))⟩,
  ⟨some 7, none, false, .mv (.t 24)⟩]

def f_rock_bedded_first_l6 : Abs.Cmd :=
  (.seq (.reg [1, 2, 6, 7, 8] f93r2) (.seq (.ite (.t 8) .nop (.exit 0)) (.seq (.blk 1 (.seq (.reg [1, 2, 3, 6, 7] f93r3) (.reg [1, 2, 6, 7] f93r4))) (.reg [1, 2, 6, 7] f93r5))))

def f93r7 : List Abs.Op := [
  ⟨some 25, none, false, .mv (.t 2)⟩,
  ⟨some 2, none, false, .mv (.t 25)⟩]

def a_rock_bedded_first : Ann := ⟨[(6, [2]), (5, [1, 2, 6, 7]), (4, [1, 2, 6, 7]), (3, [1, 2, 3, 6, 7]), (2, [1, 2, 6, 7, 8]), (1, [1, 2, 6, 7]), (0, [1, 2])], [(0, [1, 2, 6, 7])], [], [2], [], [], [], [], [], [], []⟩
def f_rock_bedded_first : Abs.Fn := ⟨1, [.t 2],
  (.seq (.reg [1, 2] f93r0) (.seq (.seq (.reg [1, 2, 6, 7] f93r1) (.blk 0 (.loop [1, 2, 6, 7] false f_rock_bedded_first_l6))) (.seq (.reg [2] f93r7) .ret)))⟩

@[simp] theorem e93r0 : type_of% f93r0.eq_1 := by_rfl f93r0.eq_1
@[simp] theorem e93r1 : type_of% f93r1.eq_1 := by_rfl f93r1.eq_1
@[simp] theorem e93r2 : type_of% f93r2.eq_1 := by_rfl f93r2.eq_1
@[simp] theorem e93r3 : type_of% f93r3.eq_1 := by_rfl f93r3.eq_1
@[simp] theorem e93r4 : type_of% f93r4.eq_1 := by_rfl f93r4.eq_1
@[simp] theorem e93r5 : type_of% f93r5.eq_1 := by_rfl f93r5.eq_1
@[simp] theorem e93r7 : type_of% f93r7.eq_1 := by_rfl f93r7.eq_1
theorem e_rock_bedded_first_l6 : type_of% f_rock_bedded_first_l6.eq_1 := by_rfl f_rock_bedded_first_l6.eq_1
theorem e_rock_bedded_first : type_of% f_rock_bedded_first.eq_1 := by_rfl f_rock_bedded_first.eq_1
theorem ok_rock_bedded_first : fnC Tryz.prog a_rock_bedded_first Tryz.f93 = some f_rock_bedded_first := by kernel_rfl

/-! 94 (fumarole/rock.bedded).tick -/
def f94r0 : List Abs.Op := [
  ⟨some 3, none, false, .boxi (.t 0)⟩,
  ⟨some 6, none, false, .mv (.c .nils)⟩,
  ⟨some 7, none, false, .mv (.c .nils)⟩,
  ⟨some 8, none, false, .mv (.c (.int .i64 0))⟩]

def f94r1 : List Abs.Op := [
  ⟨some 18, none, false, .mv (.t 1)⟩,
  ⟨some 19, none, false, .call true (.c (.fn i_slices_Clone_rock_State_rock_Block [] [])) [(.t 18)]⟩,
  ⟨some 9, none, false, .mv (.t 19)⟩]

def f94r2 : List Abs.Op := [
  ⟨some 20, none, false, .ld true 11 (.t 3)⟩,
  ⟨some 21, none, false, .mv (.t 1)⟩,
  ⟨some 22, none, false, .call true (.c (.fn i_rock_bedded_flows [] [])) [(.t 20), (.t 21)]⟩,
  ⟨some 23, none, false, .mp (.rng) [(.t 22)]⟩]

def f94r3 : List Abs.Op := [
  ⟨some 26, none, false, .mp (.ent) [(.t 23)]⟩,
  ⟨some 27, none, false, .ext (.t 26) 0⟩,
  ⟨some 28, none, false, .ext (.t 26) 1⟩,
  ⟨some 10, none, false, .alcv [] [(.int .i64 0), (.int .i64 0)]⟩,
  ⟨some 11, none, false, .alcv [] [(.int .i64 0), (.int .i64 0), (.int .i64 0)]⟩,
  ⟨none, none, false, .stv 10 [] 2 10 (.t 27)⟩,
  ⟨none, none, false, .stv 11 [] 3 11 (.t 28)⟩]

def f94r4 : List Abs.Op := [
  ⟨some 29, none, true, .mv (.t 9)⟩,
  ⟨some 30, none, true, .fadr 0 (.t 10)⟩,
  ⟨some 31, none, true, .ldv 10 false 1 30⟩,
  ⟨some 32, none, true, .idxS 3 (.t 29) (.t 31)⟩,
  ⟨some 33, none, true, .ldv 11 true 3 11⟩,
  ⟨some 34, none, false, .call false (.c (.fn i_rock_Block_move [] [])) [(.t 32), (.t 33), (.c (.int .i64 (-1)))]⟩]

def f94r5 : List Abs.Op := [
  ⟨some 35, none, true, .mv (.t 9)⟩,
  ⟨some 36, none, true, .fadr 1 (.t 10)⟩,
  ⟨some 37, none, true, .ldv 10 false 1 36⟩,
  ⟨some 38, none, true, .idxS 3 (.t 35) (.t 37)⟩,
  ⟨some 39, none, true, .ldv 11 true 3 11⟩,
  ⟨some 40, none, false, .call false (.c (.fn i_rock_Block_move [] [])) [(.t 38), (.t 39), (.c (.int .i64 1))]⟩]

def f_rock_bedded_tick_l6 : Abs.Cmd :=
  (.seq (.ite (.t 25) .nop (.exit 0)) (.blk 1 (.seq (.reg [1, 2, 3, 9, 10, 11, 23] f94r3) (.seq (.reg [1, 2, 3, 9, 10, 11, 23] f94r4) (.reg [1, 2, 3, 9, 23] f94r5)))))

def f94r7 : List Abs.Op := [
  ⟨some 12, none, false, .nilb 3⟩]

def f94r8 : List Abs.Op := [
  ⟨some 41, none, false, .mv (.t 2)⟩,
  ⟨some 42, none, false, .lenS (.t 41)⟩,
  ⟨some 43, none, false, .mv (.c (.int .i64 0))⟩]

def f94r9 : List Abs.Op := [
  ⟨some 44, none, false, .bin .lss (.t 43) (.t 42)⟩]

def f94r10 : List Abs.Op := [
  ⟨some 45, none, false, .mv (.t 43)⟩,
  ⟨some 46, none, false, .idxS 1 (.t 41) (.t 43)⟩,
  ⟨some 47, none, false, .ld false 1 (.t 46)⟩,
  ⟨some 13, none, false, .mv (.t 45)⟩,
  ⟨some 14, none, false, .mv (.t 47)⟩]

def f94r11 : List Abs.Op := [
  ⟨some 48, none, false, .fadr 0 (.t 3)⟩,
  ⟨some 49, none, false, .fadr 8 (.t 48)⟩,
  ⟨some 50, none, false, .ld false 1 (.t 49)⟩,
  ⟨some 51, none, false, .mv (.t 13)⟩,
  ⟨some 52, none, false, .idxS 3 (.t 50) (.t 51)⟩,
  ⟨some 53, none, false, .fadr 0 (.t 52)⟩,
  ⟨some 54, none, false, .ld false 1 (.t 53)⟩,
  ⟨some 15, none, false, .mv (.t 54)⟩]

def f94r12 : List Abs.Op := [
  ⟨some 16, none, false, .alcv [] [(.int .i64 0), (.int .i64 0), (.int .i64 0)]⟩]

def f94r13 : List Abs.Op := [
  ⟨some 55, none, false, .mv (.t 14)⟩,
  ⟨some 56, none, false, .bin .lss (.t 55) (.c (.int .i64 0))⟩]

def f94r14 : List Abs.Op := [
  ⟨some 57, none, true, .mv (.t 9)⟩,
  ⟨some 58, none, true, .mv (.t 15)⟩,
  ⟨some 59, none, true, .idxS 3 (.t 57) (.t 58)⟩,
  ⟨some 60, none, true, .fadr 0 (.t 3)⟩,
  ⟨some 61, none, true, .fadr 8 (.t 60)⟩,
  ⟨some 62, none, true, .ld false 1 (.t 61)⟩,
  ⟨some 63, none, true, .mv (.t 13)⟩,
  ⟨some 64, none, true, .idxS 3 (.t 62) (.t 63)⟩,
  ⟨some 65, none, true, .ld true 3 (.t 64)⟩,
  ⟨some 66, none, true, .mv (.t 14)⟩,
  ⟨some 67, none, true, .call false (.c (.fn i_rock_Bore_given [] [])) [(.t 65), (.t 66)]⟩,
  ⟨some 68, none, false, .call false (.c (.fn i_rock_Block_move [] [])) [(.t 59), (.t 67), (.c (.int .i64 1))]⟩]

def f94r15 : List Abs.Op := [
  ⟨some 69, none, true, .mv (.t 1)⟩,
  ⟨some 70, none, true, .mv (.t 15)⟩,
  ⟨some 71, none, true, .idxS 3 (.t 69) (.t 70)⟩,
  ⟨some 72, none, true, .ld true 3 (.t 71)⟩,
  ⟨some 73, none, true, .mv (.t 14)⟩,
  ⟨some 74, none, true, .mv (.t 1)⟩,
  ⟨some 75, none, true, .mv (.t 15)⟩,
  ⟨some 76, none, true, .idxS 3 (.t 74) (.t 75)⟩,
  ⟨some 77, none, true, .fadr 0 (.t 76)⟩,
  ⟨some 78, none, true, .ld false 1 (.t 77)⟩,
  ⟨some 79, none, true, .bin .quo (.t 78) (.c (.int .i64 8))⟩,
  ⟨some 80, none, true, .mn (.t 73) (.t 79)⟩,
  ⟨some 81, none, false, .call false (.c (.fn i_rock_Block_out [] [])) [(.t 72), (.t 80)]⟩,
  ⟨none, none, false, .stv 16 [] 3 16 (.t 81)⟩]

def f94r16 : List Abs.Op := [
  ⟨some 82, none, true, .mv (.t 9)⟩,
  ⟨some 83, none, true, .mv (.t 15)⟩,
  ⟨some 84, none, true, .idxS 3 (.t 82) (.t 83)⟩,
  ⟨some 85, none, true, .ldv 16 true 3 16⟩,
  ⟨some 86, none, false, .call false (.c (.fn i_rock_Block_move [] [])) [(.t 84), (.t 85), (.c (.int .i64 (-1)))]⟩]

def f94r17 : List Abs.Op := [
  ⟨some 87, none, false, .mv (.t 12)⟩,
  ⟨some 88, none, false, .ldv 16 true 3 16⟩,
  ⟨some 89, none, false, .bsi 1 3 [(.int .i64 0), (.int .i64 0), (.int .i64 0)] [(0, 3, (.t 88))]⟩,
  ⟨some 90, none, false, .app 3 24 (.t 87) (.t 89)⟩,
  ⟨some 12, none, false, .mv (.t 90)⟩]

def f94r18 : List Abs.Op := [
  ⟨some 91, none, false, .bin .add (.t 43) (.c (.int .i64 1))⟩,
  ⟨some 43, none, false, .mv (.t 91)⟩]

def f_rock_bedded_tick_l19 : Abs.Cmd :=
  (.seq (.reg [1, 3, 9, 12, 41, 42, 43, 44] f94r9) (.seq (.ite (.t 44) .nop (.exit 2)) (.seq (.blk 3 (.seq (.reg [1, 3, 9, 12, 13, 14, 41, 42, 43] f94r10) (.seq (.reg [1, 3, 9, 12, 13, 14, 15, 41, 42, 43] f94r11) (.seq (.reg [1, 3, 9, 12, 13, 14, 15, 16, 41, 42, 43] f94r12) (.seq (.seq (.reg [1, 3, 9, 12, 13, 14, 15, 16, 41, 42, 43, 56] f94r13) (.ite (.t 56) (.reg [1, 3, 9, 12, 16, 41, 42, 43] f94r14) (.seq (.reg [1, 3, 9, 12, 15, 16, 41, 42, 43] f94r15) (.reg [1, 3, 9, 12, 16, 41, 42, 43] f94r16)))) (.reg [1, 3, 9, 12, 41, 42, 43] f94r17)))))) (.reg [1, 3, 9, 12, 41, 42, 43] f94r18))))

def f94r20 : List Abs.Op := [
  ⟨some 92, none, false, .mv (.t 9)⟩,
  ⟨some 93, none, false, .lenS (.t 92)⟩,
  ⟨some 94, none, false, .mv (.c (.int .i64 0))⟩]

def f94r21 : List Abs.Op := [
  ⟨some 95, none, false, .bin .lss (.t 94) (.t 93)⟩]

def f94r22 : List Abs.Op := [
  ⟨some 96, none, false, .mv (.t 94)⟩,
  ⟨some 17, none, false, .mv (.t 96)⟩]

def f94r23 : List Abs.Op := [
  ⟨some 97, none, true, .mv (.t 9)⟩,
  ⟨some 98, none, true, .mv (.t 17)⟩,
  ⟨some 99, none, true, .idxS 3 (.t 97) (.t 98)⟩,
  ⟨some 100, none, true, .ld true 11 (.t 3)⟩,
  ⟨some 101, none, true, .mv (.t 17)⟩,
  ⟨some 102, none, true, .call false (.c (.fn i_rock_bedded_fed [] [])) [(.t 100), (.t 101)]⟩,
  ⟨some 103, none, false, .call false (.c (.fn i_rock_Block_move [] [])) [(.t 99), (.t 102), (.c (.int .i64 1))]⟩]

def f94r24 : List Abs.Op := [
  ⟨some 104, none, false, .bin .add (.t 94) (.c (.int .i64 1))⟩,
  ⟨some 94, none, false, .mv (.t 104)⟩]

def f_rock_bedded_tick_l25 : Abs.Cmd :=
  (.seq (.reg [3, 9, 12, 93, 94, 95] f94r21) (.seq (.ite (.t 95) .nop (.exit 4)) (.seq (.blk 5 (.seq (.reg [3, 9, 12, 17, 93, 94] f94r22) (.reg [3, 9, 12, 93, 94] f94r23))) (.reg [3, 9, 12, 93, 94] f94r24))))

def f94r26 : List Abs.Op := [
  ⟨some 105, none, false, .ld true 11 (.t 3)⟩,
  ⟨some 106, none, false, .mv (.t 9)⟩,
  ⟨some 107, none, false, .call false (.c (.fn i_rock_bedded_state [] [])) [(.t 105), (.t 106)]⟩,
  ⟨some 108, none, false, .un .not (.t 107)⟩]

def f94r27 : List Abs.Op := [
  ⟨some 6, none, false, .mv (.c .nils)⟩,
  ⟨some 7, none, false, .mv (.c .nils)⟩,
  ⟨some 8, none, false, .mv (.c (.int .i64 9))⟩]

def f94r28 : List Abs.Op := [
  ⟨some 109, none, false, .mv (.t 9)⟩,
  ⟨some 110, none, false, .mv (.t 12)⟩,
  ⟨some 6, none, false, .mv (.t 109)⟩,
  ⟨some 7, none, false, .mv (.t 110)⟩,
  ⟨some 8, none, false, .mv (.c (.int .i64 0))⟩]

def f_rock_bedded_tick_l29 : Abs.Cmd :=
  (.seq (.reg [1, 2, 3, 9, 12] f94r7) (.seq (.seq (.reg [1, 3, 9, 12, 41, 42, 43] f94r8) (.blk 2 (.loop [1, 3, 9, 12, 41, 42, 43] false f_rock_bedded_tick_l19))) (.seq (.seq (.reg [3, 9, 12, 93, 94] f94r20) (.blk 4 (.loop [3, 9, 12, 93, 94] false f_rock_bedded_tick_l25))) (.seq (.seq (.reg [9, 12, 108] f94r26) (.ite (.t 108) (.seq (.reg [6, 7, 8] f94r27) .ret) .nop)) (.seq (.reg [6, 7, 8] f94r28) .ret)))))

def a_rock_bedded_tick : Ann := ⟨[(26, [6, 7, 8]), (25, [6, 7, 8]), (24, [9, 12, 108]), (23, [3, 9, 12, 93, 94]), (22, [3, 9, 12, 93, 94]), (21, [3, 9, 12, 17, 93, 94]), (20, [3, 9, 12, 93, 94, 95]), (19, [3, 9, 12, 93, 94]), (18, [1, 3, 9, 12, 41, 42, 43]), (17, [1, 3, 9, 12, 41, 42, 43]), (14, [1, 3, 9, 12, 16, 41, 42, 43]), (16, [1, 3, 9, 12, 16, 41, 42, 43]), (15, [1, 3, 9, 12, 15, 16, 41, 42, 43]), (13, [1, 3, 9, 12, 13, 14, 15, 16, 41, 42, 43, 56]), (12, [1, 3, 9, 12, 13, 14, 15, 16, 41, 42, 43]), (11, [1, 3, 9, 12, 13, 14, 15, 41, 42, 43]), (10, [1, 3, 9, 12, 13, 14, 41, 42, 43]), (9, [1, 3, 9, 12, 41, 42, 43, 44]), (8, [1, 3, 9, 12, 41, 42, 43]), (7, [1, 2, 3, 9, 12]), (6, [1, 2, 3, 9, 23]), (5, [1, 2, 3, 9, 10, 11, 23]), (4, [1, 2, 3, 9, 10, 11, 23]), (3, [1, 2, 3, 9, 23, 25]), (2, [1, 2, 3, 9, 23]), (1, [1, 2, 3, 9]), (0, [1, 2, 3])], [(4, [3, 9, 12, 93, 94]), (2, [1, 3, 9, 12, 41, 42, 43]), (0, [1, 2, 3, 9, 23])], [], [10, 11, 12, 16], [10, 11, 16], [], [2002, 1001], [], [], [], []⟩
def f_rock_bedded_tick : Abs.Fn := ⟨3, [.t 6, .t 7, .t 8],
  (.seq (.reg [1, 2, 3] f94r0) (.seq (.reg [1, 2, 3, 9] f94r1) (.seq (.reg [1, 2, 3, 9, 23] f94r2) (.mloop [1, 2, 3, 9, 23] (.t 23) 24 25 0 f_rock_bedded_tick_l6 f_rock_bedded_tick_l29))))⟩

@[simp] theorem e94r0 : type_of% f94r0.eq_1 := by_rfl f94r0.eq_1
@[simp] theorem e94r1 : type_of% f94r1.eq_1 := by_rfl f94r1.eq_1
@[simp] theorem e94r2 : type_of% f94r2.eq_1 := by_rfl f94r2.eq_1
@[simp] theorem e94r3 : type_of% f94r3.eq_1 := by_rfl f94r3.eq_1
@[simp] theorem e94r4 : type_of% f94r4.eq_1 := by_rfl f94r4.eq_1
@[simp] theorem e94r5 : type_of% f94r5.eq_1 := by_rfl f94r5.eq_1
@[simp] theorem e94r7 : type_of% f94r7.eq_1 := by_rfl f94r7.eq_1
@[simp] theorem e94r8 : type_of% f94r8.eq_1 := by_rfl f94r8.eq_1
@[simp] theorem e94r9 : type_of% f94r9.eq_1 := by_rfl f94r9.eq_1
@[simp] theorem e94r10 : type_of% f94r10.eq_1 := by_rfl f94r10.eq_1
@[simp] theorem e94r11 : type_of% f94r11.eq_1 := by_rfl f94r11.eq_1
@[simp] theorem e94r12 : type_of% f94r12.eq_1 := by_rfl f94r12.eq_1
@[simp] theorem e94r13 : type_of% f94r13.eq_1 := by_rfl f94r13.eq_1
@[simp] theorem e94r14 : type_of% f94r14.eq_1 := by_rfl f94r14.eq_1
@[simp] theorem e94r15 : type_of% f94r15.eq_1 := by_rfl f94r15.eq_1
@[simp] theorem e94r16 : type_of% f94r16.eq_1 := by_rfl f94r16.eq_1
@[simp] theorem e94r17 : type_of% f94r17.eq_1 := by_rfl f94r17.eq_1
@[simp] theorem e94r18 : type_of% f94r18.eq_1 := by_rfl f94r18.eq_1
@[simp] theorem e94r20 : type_of% f94r20.eq_1 := by_rfl f94r20.eq_1
@[simp] theorem e94r21 : type_of% f94r21.eq_1 := by_rfl f94r21.eq_1
@[simp] theorem e94r22 : type_of% f94r22.eq_1 := by_rfl f94r22.eq_1
@[simp] theorem e94r23 : type_of% f94r23.eq_1 := by_rfl f94r23.eq_1
@[simp] theorem e94r24 : type_of% f94r24.eq_1 := by_rfl f94r24.eq_1
@[simp] theorem e94r26 : type_of% f94r26.eq_1 := by_rfl f94r26.eq_1
@[simp] theorem e94r27 : type_of% f94r27.eq_1 := by_rfl f94r27.eq_1
@[simp] theorem e94r28 : type_of% f94r28.eq_1 := by_rfl f94r28.eq_1
theorem e_rock_bedded_tick_l6 : type_of% f_rock_bedded_tick_l6.eq_1 := by_rfl f_rock_bedded_tick_l6.eq_1
theorem e_rock_bedded_tick_l19 : type_of% f_rock_bedded_tick_l19.eq_1 := by_rfl f_rock_bedded_tick_l19.eq_1
theorem e_rock_bedded_tick_l25 : type_of% f_rock_bedded_tick_l25.eq_1 := by_rfl f_rock_bedded_tick_l25.eq_1
theorem e_rock_bedded_tick_l29 : type_of% f_rock_bedded_tick_l29.eq_1 := by_rfl f_rock_bedded_tick_l29.eq_1
theorem e_rock_bedded_tick : type_of% f_rock_bedded_tick.eq_1 := by_rfl f_rock_bedded_tick.eq_1
theorem ok_rock_bedded_tick : fnC Tryz.prog a_rock_bedded_tick Tryz.f94 = some f_rock_bedded_tick := by kernel_rfl

/-! 95 fumarole/steam.all[fumarole/steam.Row] -/
def f95r0 : List Abs.Op := [
  ⟨some 3, none, false, .boxi (.t 1)⟩,
  ⟨some 4, none, false, .mv (.c (.bool false))⟩]

def f95r1 : List Abs.Op := [
  ⟨some 5, none, false, .mv (.t 0)⟩,
  ⟨some 6, none, false, .mkf i_steam_all_steam_Row_1 [] [(.t 3)]⟩,
  ⟨some 7, none, false, .call false (.c (.fn i_slices_ContainsFunc_steam_Row [] [])) [(.t 5), (.t 6)]⟩,
  ⟨some 8, none, false, .un .not (.t 7)⟩,
  ⟨some 4, none, false, .mv (.t 8)⟩]

def a_steam_all_steam_Row : Ann := ⟨[(1, [4]), (0, [0, 3])], [], [], [], [], [], [], [], [], [], []⟩
def f_steam_all_steam_Row : Abs.Fn := ⟨2, [.t 4],
  (.seq (.reg [0, 3] f95r0) (.seq (.reg [4] f95r1) .ret))⟩

@[simp] theorem e95r0 : type_of% f95r0.eq_1 := by_rfl f95r0.eq_1
@[simp] theorem e95r1 : type_of% f95r1.eq_1 := by_rfl f95r1.eq_1
theorem e_steam_all_steam_Row : type_of% f_steam_all_steam_Row.eq_1 := by_rfl f_steam_all_steam_Row.eq_1
theorem ok_steam_all_steam_Row : fnC Tryz.prog a_steam_all_steam_Row Tryz.f95 = some f_steam_all_steam_Row := by kernel_rfl

/-! 96 (fumarole/steam.Row).alone -/
def f96r0 : List Abs.Op := [
  ⟨some 1, none, false, .boxi (.t 0)⟩,
  ⟨some 2, none, false, .mv (.c (.bool false))⟩]

def f96r1 : List Abs.Op := [
  ⟨some 3, none, false, .fadr 0 (.t 1)⟩,
  ⟨some 4, none, false, .ld false 1 (.t 3)⟩,
  ⟨some 5, none, false, .call false (.c (.fn i_steam_within [] [])) [(.t 4), (.c (.int .i64 0)), (.c (.int .i64 400))]⟩,
  ⟨some 6, none, false, .mv (.t 5)⟩,
  ⟨some 7, some (6, true), false, .fadr 1 (.t 1)⟩,
  ⟨some 8, some (6, true), false, .ld false 1 (.t 7)⟩,
  ⟨some 9, some (6, true), false, .call false (.c (.fn i_steam_within [] [])) [(.t 8), (.c (.int .i64 1)), (.c (.int .i64 10000))]⟩,
  ⟨some 10, none, false, .pick (.t 6) (.t 9) (.c (.bool false))⟩,
  ⟨some 11, none, false, .mv (.t 10)⟩,
  ⟨some 12, some (11, true), false, .fadr 2 (.t 1)⟩,
  ⟨some 13, some (11, true), false, .ld false 1 (.t 12)⟩,
  ⟨some 14, some (11, true), false, .call false (.c (.fn i_steam_within [] [])) [(.t 13), (.c (.int .i64 0)), (.c (.int .i64 4000))]⟩,
  ⟨some 15, none, false, .pick (.t 11) (.t 14) (.c (.bool false))⟩,
  ⟨some 16, none, false, .mv (.t 15)⟩,
  ⟨some 17, some (16, true), false, .fadr 4 (.t 1)⟩,
  ⟨some 18, some (16, true), false, .ld false 1 (.t 17)⟩,
  ⟨some 19, some (16, true), false, .call false (.c (.fn i_steam_within [] [])) [(.t 18), (.c (.int .i64 0)), (.c (.int .i64 2000))]⟩,
  ⟨some 20, none, false, .pick (.t 16) (.t 19) (.c (.bool false))⟩,
  ⟨some 21, none, false, .mv (.t 20)⟩,
  ⟨some 22, some (21, true), false, .fadr 2 (.t 1)⟩,
  ⟨some 23, some (21, true), false, .ld false 1 (.t 22)⟩,
  ⟨some 24, some (21, true), false, .fadr 3 (.t 1)⟩,
  ⟨some 25, some (21, true), false, .ld false 1 (.t 24)⟩,
  ⟨some 26, some (21, true), false, .bin .lss (.t 23) (.t 25)⟩,
  ⟨some 27, none, false, .pick (.t 21) (.t 26) (.c (.bool false))⟩,
  ⟨some 28, none, false, .mv (.t 27)⟩,
  ⟨some 29, some (28, true), false, .fadr 3 (.t 1)⟩,
  ⟨some 30, some (28, true), false, .ld false 1 (.t 29)⟩,
  ⟨some 31, some (28, true), false, .bin .leq (.t 30) (.c (.int .i64 4000))⟩,
  ⟨some 32, none, false, .pick (.t 28) (.t 31) (.c (.bool false))⟩,
  ⟨some 2, none, false, .mv (.t 32)⟩]

def a_steam_Row_alone : Ann := ⟨[(1, [2]), (0, [1])], [], [], [], [], [], [], [], [], [], []⟩
def f_steam_Row_alone : Abs.Fn := ⟨1, [.t 2],
  (.seq (.reg [1] f96r0) (.seq (.reg [2] f96r1) .ret))⟩

@[simp] theorem e96r0 : type_of% f96r0.eq_1 := by_rfl f96r0.eq_1
@[simp] theorem e96r1 : type_of% f96r1.eq_1 := by_rfl f96r1.eq_1
theorem e_steam_Row_alone : type_of% f_steam_Row_alone.eq_1 := by_rfl f_steam_Row_alone.eq_1
theorem ok_steam_Row_alone : fnC Tryz.prog a_steam_Row_alone Tryz.f96 = some f_steam_Row_alone := by kernel_rfl

/-! 97 (fumarole/steam.flash).steam -/
def f97r0 : List Abs.Op := [
  ⟨some 2, none, false, .boxi (.t 0)⟩,
  ⟨some 3, none, false, .boxi (.t 1)⟩,
  ⟨some 4, none, false, .mv (.c (.int .i64 0))⟩]

def f97r1 : List Abs.Op := [
  ⟨some 6, none, false, .fadr 1 (.t 3)⟩,
  ⟨some 7, none, false, .ld false 1 (.t 6)⟩,
  ⟨some 8, none, false, .fadr 0 (.t 3)⟩,
  ⟨some 9, none, false, .ld false 1 (.t 8)⟩,
  ⟨some 10, none, false, .fadr 0 (.t 2)⟩,
  ⟨some 11, none, false, .fadr 2 (.t 10)⟩,
  ⟨some 12, none, false, .ld false 1 (.t 11)⟩,
  ⟨some 13, none, false, .bin .mul (.t 9) (.t 12)⟩,
  ⟨some 14, none, false, .bin .sub (.t 7) (.t 13)⟩,
  ⟨some 5, none, false, .mv (.t 14)⟩]

def f97r2 : List Abs.Op := [
  ⟨some 16, none, false, .mv (.t 5)⟩,
  ⟨some 17, none, false, .bin .leq (.t 16) (.c (.int .i64 0))⟩,
  ⟨some 15, none, false, .mv (.t 17)⟩]

def f97r3 : List Abs.Op := [
  ⟨some 4, none, false, .mv (.c (.int .i64 0))⟩]

def f97r4 : List Abs.Op := [
  ⟨some 19, none, false, .fadr 1 (.t 3)⟩,
  ⟨some 20, none, false, .ld false 1 (.t 19)⟩,
  ⟨some 21, none, false, .fadr 0 (.t 3)⟩,
  ⟨some 22, none, false, .ld false 1 (.t 21)⟩,
  ⟨some 23, none, false, .fadr 0 (.t 2)⟩,
  ⟨some 24, none, false, .fadr 3 (.t 23)⟩,
  ⟨some 25, none, false, .ld false 1 (.t 24)⟩,
  ⟨some 26, none, false, .bin .mul (.t 22) (.t 25)⟩,
  ⟨some 27, none, false, .bin .geq (.t 20) (.t 26)⟩,
  ⟨some 18, none, false, .mv (.t 27)⟩]

def f97r5 : List Abs.Op := [
  ⟨some 28, none, false, .fadr 0 (.t 3)⟩,
  ⟨some 29, none, false, .ld false 1 (.t 28)⟩,
  ⟨some 4, none, false, .mv (.t 29)⟩]

def f97r6 : List Abs.Op := [
  ⟨some 30, none, false, .mv (.t 5)⟩,
  ⟨some 31, none, false, .fadr 0 (.t 2)⟩,
  ⟨some 32, none, false, .fadr 3 (.t 31)⟩,
  ⟨some 33, none, false, .ld false 1 (.t 32)⟩,
  ⟨some 34, none, false, .fadr 0 (.t 2)⟩,
  ⟨some 35, none, false, .fadr 2 (.t 34)⟩,
  ⟨some 36, none, false, .ld false 1 (.t 35)⟩,
  ⟨some 37, none, false, .bin .sub (.t 33) (.t 36)⟩,
  ⟨some 38, none, false, .bin .quo (.t 30) (.t 37)⟩,
  ⟨some 4, none, false, .mv (.t 38)⟩]

def a_steam_flash_steam : Ann := ⟨[(6, [4]), (3, [4]), (5, [4]), (4, [2, 3, 5, 18]), (2, [2, 3, 5, 15]), (1, [2, 3, 5]), (0, [2, 3])], [], [], [], [], [], [], [], [], [], []⟩
def f_steam_flash_steam : Abs.Fn := ⟨2, [.t 4],
  (.seq (.reg [2, 3] f97r0) (.seq (.reg [2, 3, 5] f97r1) (.seq (.blk 0 (.seq (.reg [2, 3, 5, 15] f97r2) (.ite (.t 15) (.seq (.reg [4] f97r3) .ret) (.seq (.reg [2, 3, 5, 18] f97r4) (.ite (.t 18) (.seq (.reg [4] f97r5) .ret) .nop))))) (.seq (.reg [4] f97r6) .ret))))⟩

@[simp] theorem e97r0 : type_of% f97r0.eq_1 := by_rfl f97r0.eq_1
@[simp] theorem e97r1 : type_of% f97r1.eq_1 := by_rfl f97r1.eq_1
@[simp] theorem e97r2 : type_of% f97r2.eq_1 := by_rfl f97r2.eq_1
@[simp] theorem e97r3 : type_of% f97r3.eq_1 := by_rfl f97r3.eq_1
@[simp] theorem e97r4 : type_of% f97r4.eq_1 := by_rfl f97r4.eq_1
@[simp] theorem e97r5 : type_of% f97r5.eq_1 := by_rfl f97r5.eq_1
@[simp] theorem e97r6 : type_of% f97r6.eq_1 := by_rfl f97r6.eq_1
theorem e_steam_flash_steam : type_of% f_steam_flash_steam.eq_1 := by_rfl f_steam_flash_steam.eq_1
theorem ok_steam_flash_steam : fnC Tryz.prog a_steam_flash_steam Tryz.f97 = some f_steam_flash_steam := by kernel_rfl

end Go.Proofs.YtehandllpmlcoaaGreat
