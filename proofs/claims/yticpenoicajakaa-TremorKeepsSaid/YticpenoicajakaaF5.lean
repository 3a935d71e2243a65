/- The code of functions of the program, in the small instruction set; each is what the translation makes of it. -/
import Derived.Test.YticpenoicajakaaIds
set_option linter.unusedVariables false
set_option maxRecDepth 100000
namespace Go.Proofs.Yticpenoicajakaa
open Go Go.Abs
/-! 142 slices.IndexFunc[[]fumarole/tremor.Station,fumarole/tremor.Station] -/
def f_slices_IndexFunc_tremor_Station_r0 : List Abs.Op := [
  ⟨some 4, none, false, .mv (.c (.int .i64 0))⟩]

def f_slices_IndexFunc_tremor_Station_r1 : List Abs.Op := [
  ⟨some 6, none, false, .mv (.t 0)⟩,
  ⟨some 7, none, false, .lenS (.t 6)⟩,
  ⟨some 8, none, false, .mv (.c (.int .i64 0))⟩]

def f_slices_IndexFunc_tremor_Station_r2 : List Abs.Op := [
  ⟨some 9, none, false, .bin .lss (.t 8) (.t 7)⟩]

def f_slices_IndexFunc_tremor_Station_r3 : List Abs.Op := [
  ⟨some 10, none, false, .mv (.t 8)⟩,
  ⟨some 5, none, false, .mv (.t 10)⟩]

def f_slices_IndexFunc_tremor_Station_r4 : List Abs.Op := [
  ⟨some 11, none, false, .mv (.t 1)⟩,
  ⟨some 12, none, false, .mv (.t 0)⟩,
  ⟨some 13, none, false, .mv (.t 5)⟩,
  ⟨some 14, none, false, .idxS 4 (.t 12) (.t 13)⟩,
  ⟨some 15, none, false, .ld true 4 (.t 14)⟩,
  ⟨some 16, none, false, .call false (.t 11) [(.t 15)]⟩]

def f_slices_IndexFunc_tremor_Station_r5 : List Abs.Op := [
  ⟨some 17, none, false, .mv (.t 5)⟩,
  ⟨some 4, none, false, .mv (.t 17)⟩]

def f_slices_IndexFunc_tremor_Station_r6 : List Abs.Op := [
  ⟨some 18, none, false, .bin .add (.t 8) (.c (.int .i64 1))⟩,
  ⟨some 8, none, false, .mv (.t 18)⟩]

def f_slices_IndexFunc_tremor_Station_l7 : Abs.Cmd :=
  (.seq (.reg [0, 1, 7, 8, 9] f_slices_IndexFunc_tremor_Station_r2) (.seq (.ite (.t 9) .nop (.exit 0)) (.seq (.blk 1 (.seq (.reg [0, 1, 5, 7, 8] f_slices_IndexFunc_tremor_Station_r3) (.seq (.reg [0, 1, 5, 7, 8, 16] f_slices_IndexFunc_tremor_Station_r4) (.ite (.t 16) (.seq (.reg [4] f_slices_IndexFunc_tremor_Station_r5) .ret) .nop)))) (.reg [0, 1, 7, 8] f_slices_IndexFunc_tremor_Station_r6))))

def f_slices_IndexFunc_tremor_Station_r8 : List Abs.Op := [
  ⟨some 4, none, false, .mv (.c (.int .i64 (-1)))⟩]

def a_slices_IndexFunc_tremor_Station : Ann := ⟨[(7, [4]), (6, [0, 1, 7, 8]), (5, [4]), (4, [0, 1, 5, 7, 8, 16]), (3, [0, 1, 5, 7, 8]), (2, [0, 1, 7, 8, 9]), (1, [0, 1, 7, 8]), (0, [0, 1])], [(0, [0, 1, 7, 8])], [], [], [], [], [], []⟩
def f_slices_IndexFunc_tremor_Station : Abs.Fn := ⟨2, [.t 4],
  (.seq (.reg [0, 1] f_slices_IndexFunc_tremor_Station_r0) (.seq (.seq (.reg [0, 1, 7, 8] f_slices_IndexFunc_tremor_Station_r1) (.blk 0 (.loop [0, 1, 7, 8] false f_slices_IndexFunc_tremor_Station_l7))) (.seq (.reg [4] f_slices_IndexFunc_tremor_Station_r8) .ret)))⟩

theorem e_slices_IndexFunc_tremor_Station_r0 : type_of% f_slices_IndexFunc_tremor_Station_r0.eq_1 := by_rfl f_slices_IndexFunc_tremor_Station_r0.eq_1
theorem e_slices_IndexFunc_tremor_Station_r1 : type_of% f_slices_IndexFunc_tremor_Station_r1.eq_1 := by_rfl f_slices_IndexFunc_tremor_Station_r1.eq_1
theorem e_slices_IndexFunc_tremor_Station_r2 : type_of% f_slices_IndexFunc_tremor_Station_r2.eq_1 := by_rfl f_slices_IndexFunc_tremor_Station_r2.eq_1
theorem e_slices_IndexFunc_tremor_Station_r3 : type_of% f_slices_IndexFunc_tremor_Station_r3.eq_1 := by_rfl f_slices_IndexFunc_tremor_Station_r3.eq_1
theorem e_slices_IndexFunc_tremor_Station_r4 : type_of% f_slices_IndexFunc_tremor_Station_r4.eq_1 := by_rfl f_slices_IndexFunc_tremor_Station_r4.eq_1
theorem e_slices_IndexFunc_tremor_Station_r5 : type_of% f_slices_IndexFunc_tremor_Station_r5.eq_1 := by_rfl f_slices_IndexFunc_tremor_Station_r5.eq_1
theorem e_slices_IndexFunc_tremor_Station_r6 : type_of% f_slices_IndexFunc_tremor_Station_r6.eq_1 := by_rfl f_slices_IndexFunc_tremor_Station_r6.eq_1
theorem e_slices_IndexFunc_tremor_Station_l7 : type_of% f_slices_IndexFunc_tremor_Station_l7.eq_1 := by_rfl f_slices_IndexFunc_tremor_Station_l7.eq_1
theorem e_slices_IndexFunc_tremor_Station_r8 : type_of% f_slices_IndexFunc_tremor_Station_r8.eq_1 := by_rfl f_slices_IndexFunc_tremor_Station_r8.eq_1
theorem e_slices_IndexFunc_tremor_Station : type_of% f_slices_IndexFunc_tremor_Station.eq_1 := by_rfl f_slices_IndexFunc_tremor_Station.eq_1
theorem ok_slices_IndexFunc_tremor_Station : fnC Try.prog a_slices_IndexFunc_tremor_Station Try.f142 = some f_slices_IndexFunc_tremor_Station := by kernel_rfl

/-! 143 slices.IndexFunc[[]fumarole/tremor.Row,fumarole/tremor.Row] -/
def f_slices_IndexFunc_tremor_Row_r0 : List Abs.Op := [
  ⟨some 4, none, false, .mv (.c (.int .i64 0))⟩]

def f_slices_IndexFunc_tremor_Row_r1 : List Abs.Op := [
  ⟨some 6, none, false, .mv (.t 0)⟩,
  ⟨some 7, none, false, .lenS (.t 6)⟩,
  ⟨some 8, none, false, .mv (.c (.int .i64 0))⟩]

def f_slices_IndexFunc_tremor_Row_r2 : List Abs.Op := [
  ⟨some 9, none, false, .bin .lss (.t 8) (.t 7)⟩]

def f_slices_IndexFunc_tremor_Row_r3 : List Abs.Op := [
  ⟨some 10, none, false, .mv (.t 8)⟩,
  ⟨some 5, none, false, .mv (.t 10)⟩]

def f_slices_IndexFunc_tremor_Row_r4 : List Abs.Op := [
  ⟨some 11, none, false, .mv (.t 1)⟩,
  ⟨some 12, none, false, .mv (.t 0)⟩,
  ⟨some 13, none, false, .mv (.t 5)⟩,
  ⟨some 14, none, false, .idxS 2 (.t 12) (.t 13)⟩,
  ⟨some 15, none, false, .ld true 2 (.t 14)⟩,
  ⟨some 16, none, false, .call false (.t 11) [(.t 15)]⟩]

def f_slices_IndexFunc_tremor_Row_r5 : List Abs.Op := [
  ⟨some 17, none, false, .mv (.t 5)⟩,
  ⟨some 4, none, false, .mv (.t 17)⟩]

def f_slices_IndexFunc_tremor_Row_r6 : List Abs.Op := [
  ⟨some 18, none, false, .bin .add (.t 8) (.c (.int .i64 1))⟩,
  ⟨some 8, none, false, .mv (.t 18)⟩]

def f_slices_IndexFunc_tremor_Row_l7 : Abs.Cmd :=
  (.seq (.reg [0, 1, 7, 8, 9] f_slices_IndexFunc_tremor_Row_r2) (.seq (.ite (.t 9) .nop (.exit 0)) (.seq (.blk 1 (.seq (.reg [0, 1, 5, 7, 8] f_slices_IndexFunc_tremor_Row_r3) (.seq (.reg [0, 1, 5, 7, 8, 16] f_slices_IndexFunc_tremor_Row_r4) (.ite (.t 16) (.seq (.reg [4] f_slices_IndexFunc_tremor_Row_r5) .ret) .nop)))) (.reg [0, 1, 7, 8] f_slices_IndexFunc_tremor_Row_r6))))

def f_slices_IndexFunc_tremor_Row_r8 : List Abs.Op := [
  ⟨some 4, none, false, .mv (.c (.int .i64 (-1)))⟩]

def a_slices_IndexFunc_tremor_Row : Ann := ⟨[(7, [4]), (6, [0, 1, 7, 8]), (5, [4]), (4, [0, 1, 5, 7, 8, 16]), (3, [0, 1, 5, 7, 8]), (2, [0, 1, 7, 8, 9]), (1, [0, 1, 7, 8]), (0, [0, 1])], [(0, [0, 1, 7, 8])], [], [], [], [], [], []⟩
def f_slices_IndexFunc_tremor_Row : Abs.Fn := ⟨2, [.t 4],
  (.seq (.reg [0, 1] f_slices_IndexFunc_tremor_Row_r0) (.seq (.seq (.reg [0, 1, 7, 8] f_slices_IndexFunc_tremor_Row_r1) (.blk 0 (.loop [0, 1, 7, 8] false f_slices_IndexFunc_tremor_Row_l7))) (.seq (.reg [4] f_slices_IndexFunc_tremor_Row_r8) .ret)))⟩

theorem e_slices_IndexFunc_tremor_Row_r0 : type_of% f_slices_IndexFunc_tremor_Row_r0.eq_1 := by_rfl f_slices_IndexFunc_tremor_Row_r0.eq_1
theorem e_slices_IndexFunc_tremor_Row_r1 : type_of% f_slices_IndexFunc_tremor_Row_r1.eq_1 := by_rfl f_slices_IndexFunc_tremor_Row_r1.eq_1
theorem e_slices_IndexFunc_tremor_Row_r2 : type_of% f_slices_IndexFunc_tremor_Row_r2.eq_1 := by_rfl f_slices_IndexFunc_tremor_Row_r2.eq_1
theorem e_slices_IndexFunc_tremor_Row_r3 : type_of% f_slices_IndexFunc_tremor_Row_r3.eq_1 := by_rfl f_slices_IndexFunc_tremor_Row_r3.eq_1
theorem e_slices_IndexFunc_tremor_Row_r4 : type_of% f_slices_IndexFunc_tremor_Row_r4.eq_1 := by_rfl f_slices_IndexFunc_tremor_Row_r4.eq_1
theorem e_slices_IndexFunc_tremor_Row_r5 : type_of% f_slices_IndexFunc_tremor_Row_r5.eq_1 := by_rfl f_slices_IndexFunc_tremor_Row_r5.eq_1
theorem e_slices_IndexFunc_tremor_Row_r6 : type_of% f_slices_IndexFunc_tremor_Row_r6.eq_1 := by_rfl f_slices_IndexFunc_tremor_Row_r6.eq_1
theorem e_slices_IndexFunc_tremor_Row_l7 : type_of% f_slices_IndexFunc_tremor_Row_l7.eq_1 := by_rfl f_slices_IndexFunc_tremor_Row_l7.eq_1
theorem e_slices_IndexFunc_tremor_Row_r8 : type_of% f_slices_IndexFunc_tremor_Row_r8.eq_1 := by_rfl f_slices_IndexFunc_tremor_Row_r8.eq_1
theorem e_slices_IndexFunc_tremor_Row : type_of% f_slices_IndexFunc_tremor_Row.eq_1 := by_rfl f_slices_IndexFunc_tremor_Row.eq_1
theorem ok_slices_IndexFunc_tremor_Row : fnC Try.prog a_slices_IndexFunc_tremor_Row Try.f143 = some f_slices_IndexFunc_tremor_Row := by kernel_rfl

end Go.Proofs.Yticpenoicajakaa
