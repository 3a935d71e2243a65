/- The code of functions of the program, in the small instruction set; each is what the translation makes of it. -/
import Derived.Test.YtcccafphhmcifaaGreatIds
set_option linter.unusedVariables false
set_option maxRecDepth 100000
namespace Go.Proofs.YtcccafphhmcifaaGreat
open Go Go.Abs
/-! 140 slices.swapRangeCmpFunc[int] -/
def f_slices_swapRangeCmpFunc_int_r0 : List Abs.Op := [
  ⟨some 10, none, false, .mv (.c (.int .i64 0))⟩]

def f_slices_swapRangeCmpFunc_int_r1 : List Abs.Op := [
  ⟨some 11, none, false, .mv (.t 10)⟩,
  ⟨some 12, none, false, .mv (.t 3)⟩,
  ⟨some 13, none, false, .bin .lss (.t 11) (.t 12)⟩]

def f_slices_swapRangeCmpFunc_int_r2 : List Abs.Op := [
  ⟨some 16, none, true, .mv (.t 0)⟩,
  ⟨some 17, none, true, .mv (.t 1)⟩,
  ⟨some 18, none, true, .mv (.t 10)⟩,
  ⟨some 19, none, true, .bin .add (.t 17) (.t 18)⟩,
  ⟨some 20, none, true, .mv (.t 0)⟩,
  ⟨some 21, none, true, .mv (.t 2)⟩,
  ⟨some 22, none, true, .mv (.t 10)⟩,
  ⟨some 23, none, true, .bin .add (.t 21) (.t 22)⟩,
  ⟨some 24, none, true, .mv (.t 0)⟩,
  ⟨some 25, none, true, .mv (.t 2)⟩,
  ⟨some 26, none, true, .mv (.t 10)⟩,
  ⟨some 27, none, true, .bin .add (.t 25) (.t 26)⟩,
  ⟨some 28, none, true, .idxS 1 (.t 24) (.t 27)⟩,
  ⟨some 29, none, true, .ld false 1 (.t 28)⟩,
  ⟨some 30, none, true, .mv (.t 0)⟩,
  ⟨some 31, none, true, .mv (.t 1)⟩,
  ⟨some 32, none, true, .mv (.t 10)⟩,
  ⟨some 33, none, true, .bin .add (.t 31) (.t 32)⟩,
  ⟨some 34, none, true, .idxS 1 (.t 30) (.t 33)⟩,
  ⟨some 35, none, true, .ld false 1 (.t 34)⟩,
  ⟨some 36, none, true, .idxS 1 (.t 16) (.t 19)⟩,
  ⟨none, none, true, .st [] 1 (.t 36) (.t 29)⟩,
  ⟨some 37, none, false, .idxS 1 (.t 20) (.t 23)⟩,
  ⟨none, none, false, .st [] 1 (.t 37) (.t 35)⟩]

def f_slices_swapRangeCmpFunc_int_r3 : List Abs.Op := [
  ⟨some 14, none, false, .mv (.t 10)⟩,
  ⟨some 15, none, false, .bin .add (.t 14) (.c (.int .i64 1))⟩,
  ⟨some 10, none, false, .mv (.t 15)⟩]

def f_slices_swapRangeCmpFunc_int_l4 : Abs.Cmd :=
  (.seq (.seq (.reg [0, 1, 2, 3, 10, 13] f_slices_swapRangeCmpFunc_int_r1) (.ite (.t 13) .nop (.exit 0))) (.seq (.blk 1 (.reg [0, 1, 2, 3, 10] f_slices_swapRangeCmpFunc_int_r2)) (.reg [0, 1, 2, 3, 10] f_slices_swapRangeCmpFunc_int_r3)))

def a_slices_swapRangeCmpFunc_int : Ann := ⟨[(2, [0, 1, 2, 3, 10]), (3, [0, 1, 2, 3, 10]), (1, [0, 1, 2, 3, 10, 13]), (0, [0, 1, 2, 3, 10])], [(0, [0, 1, 2, 3, 10])], [], [], [], [], [], [], [], []⟩
def f_slices_swapRangeCmpFunc_int : Abs.Fn := ⟨5, [],
  (.seq (.reg [0, 1, 2, 3, 10] f_slices_swapRangeCmpFunc_int_r0) (.blk 0 (.loop [0, 1, 2, 3, 10] false f_slices_swapRangeCmpFunc_int_l4)))⟩

theorem e_slices_swapRangeCmpFunc_int_r0 : type_of% f_slices_swapRangeCmpFunc_int_r0.eq_1 := by_rfl f_slices_swapRangeCmpFunc_int_r0.eq_1
theorem e_slices_swapRangeCmpFunc_int_r1 : type_of% f_slices_swapRangeCmpFunc_int_r1.eq_1 := by_rfl f_slices_swapRangeCmpFunc_int_r1.eq_1
theorem e_slices_swapRangeCmpFunc_int_r2 : type_of% f_slices_swapRangeCmpFunc_int_r2.eq_1 := by_rfl f_slices_swapRangeCmpFunc_int_r2.eq_1
theorem e_slices_swapRangeCmpFunc_int_r3 : type_of% f_slices_swapRangeCmpFunc_int_r3.eq_1 := by_rfl f_slices_swapRangeCmpFunc_int_r3.eq_1
theorem e_slices_swapRangeCmpFunc_int_l4 : type_of% f_slices_swapRangeCmpFunc_int_l4.eq_1 := by_rfl f_slices_swapRangeCmpFunc_int_l4.eq_1
theorem e_slices_swapRangeCmpFunc_int : type_of% f_slices_swapRangeCmpFunc_int.eq_1 := by_rfl f_slices_swapRangeCmpFunc_int.eq_1
theorem ok_slices_swapRangeCmpFunc_int : fnC Tryz.prog a_slices_swapRangeCmpFunc_int Tryz.f140 = some f_slices_swapRangeCmpFunc_int := by kernel_rfl

end Go.Proofs.YtcccafphhmcifaaGreat
