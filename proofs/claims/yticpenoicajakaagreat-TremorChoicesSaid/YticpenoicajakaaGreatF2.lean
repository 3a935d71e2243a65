/- The code of functions of the program, in the small instruction set; each is what the translation makes of it. -/
import Derived.Test.YticpenoicajakaaGreatIds
set_option linter.unusedVariables false
set_option maxRecDepth 100000
namespace Go.Proofs.YticpenoicajakaaGreat
open Go Go.Abs
/-! 61 slices.IndexFunc[[]fumarole/tremor.Spot,fumarole/tremor.Spot] -/
def f_slices_IndexFunc_tremor_Spot_r0 : List Abs.Op := [
  ⟨some 4, none, false, .mv (.c (.int .i64 0))⟩]

def f_slices_IndexFunc_tremor_Spot_r1 : List Abs.Op := [
  ⟨some 6, none, false, .mv (.t 0)⟩,
  ⟨some 7, none, false, .lenS (.t 6)⟩,
  ⟨some 8, none, false, .mv (.c (.int .i64 0))⟩]

def f_slices_IndexFunc_tremor_Spot_r2 : List Abs.Op := [
  ⟨some 9, none, false, .bin .lss (.t 8) (.t 7)⟩]

def f_slices_IndexFunc_tremor_Spot_r3 : List Abs.Op := [
  ⟨some 10, none, false, .mv (.t 8)⟩,
  ⟨some 5, none, false, .mv (.t 10)⟩]

def f_slices_IndexFunc_tremor_Spot_r4 : List Abs.Op := [
  ⟨some 11, none, false, .mv (.t 1)⟩,
  ⟨some 12, none, false, .mv (.t 0)⟩,
  ⟨some 13, none, false, .mv (.t 5)⟩,
  ⟨some 14, none, false, .idxS 4 (.t 12) (.t 13)⟩,
  ⟨some 15, none, false, .ld true 4 (.t 14)⟩,
  ⟨some 16, none, false, .call false (.t 11) [(.t 15)]⟩]

def f_slices_IndexFunc_tremor_Spot_r5 : List Abs.Op := [
  ⟨some 17, none, false, .mv (.t 5)⟩,
  ⟨some 4, none, false, .mv (.t 17)⟩]

def f_slices_IndexFunc_tremor_Spot_r6 : List Abs.Op := [
  ⟨some 18, none, false, .bin .add (.t 8) (.c (.int .i64 1))⟩,
  ⟨some 8, none, false, .mv (.t 18)⟩]

def f_slices_IndexFunc_tremor_Spot_l7 : Abs.Cmd :=
  (.seq (.reg [0, 1, 7, 8, 9] f_slices_IndexFunc_tremor_Spot_r2) (.seq (.ite (.t 9) .nop (.exit 0)) (.seq (.blk 1 (.seq (.reg [0, 1, 5, 7, 8] f_slices_IndexFunc_tremor_Spot_r3) (.seq (.reg [0, 1, 5, 7, 8, 16] f_slices_IndexFunc_tremor_Spot_r4) (.ite (.t 16) (.seq (.reg [4] f_slices_IndexFunc_tremor_Spot_r5) .ret) .nop)))) (.reg [0, 1, 7, 8] f_slices_IndexFunc_tremor_Spot_r6))))

def f_slices_IndexFunc_tremor_Spot_r8 : List Abs.Op := [
  ⟨some 4, none, false, .mv (.c (.int .i64 (-1)))⟩]

def a_slices_IndexFunc_tremor_Spot : Ann := ⟨[(7, [4]), (6, [0, 1, 7, 8]), (5, [4]), (4, [0, 1, 5, 7, 8, 16]), (3, [0, 1, 5, 7, 8]), (2, [0, 1, 7, 8, 9]), (1, [0, 1, 7, 8]), (0, [0, 1])], [(0, [0, 1, 7, 8])], [], [], [], [], [], [], []⟩
def f_slices_IndexFunc_tremor_Spot : Abs.Fn := ⟨2, [.t 4],
  (.seq (.reg [0, 1] f_slices_IndexFunc_tremor_Spot_r0) (.seq (.seq (.reg [0, 1, 7, 8] f_slices_IndexFunc_tremor_Spot_r1) (.blk 0 (.loop [0, 1, 7, 8] false f_slices_IndexFunc_tremor_Spot_l7))) (.seq (.reg [4] f_slices_IndexFunc_tremor_Spot_r8) .ret)))⟩

theorem e_slices_IndexFunc_tremor_Spot_r0 : type_of% f_slices_IndexFunc_tremor_Spot_r0.eq_1 := by_rfl f_slices_IndexFunc_tremor_Spot_r0.eq_1
theorem e_slices_IndexFunc_tremor_Spot_r1 : type_of% f_slices_IndexFunc_tremor_Spot_r1.eq_1 := by_rfl f_slices_IndexFunc_tremor_Spot_r1.eq_1
theorem e_slices_IndexFunc_tremor_Spot_r2 : type_of% f_slices_IndexFunc_tremor_Spot_r2.eq_1 := by_rfl f_slices_IndexFunc_tremor_Spot_r2.eq_1
theorem e_slices_IndexFunc_tremor_Spot_r3 : type_of% f_slices_IndexFunc_tremor_Spot_r3.eq_1 := by_rfl f_slices_IndexFunc_tremor_Spot_r3.eq_1
theorem e_slices_IndexFunc_tremor_Spot_r4 : type_of% f_slices_IndexFunc_tremor_Spot_r4.eq_1 := by_rfl f_slices_IndexFunc_tremor_Spot_r4.eq_1
theorem e_slices_IndexFunc_tremor_Spot_r5 : type_of% f_slices_IndexFunc_tremor_Spot_r5.eq_1 := by_rfl f_slices_IndexFunc_tremor_Spot_r5.eq_1
theorem e_slices_IndexFunc_tremor_Spot_r6 : type_of% f_slices_IndexFunc_tremor_Spot_r6.eq_1 := by_rfl f_slices_IndexFunc_tremor_Spot_r6.eq_1
theorem e_slices_IndexFunc_tremor_Spot_l7 : type_of% f_slices_IndexFunc_tremor_Spot_l7.eq_1 := by_rfl f_slices_IndexFunc_tremor_Spot_l7.eq_1
theorem e_slices_IndexFunc_tremor_Spot_r8 : type_of% f_slices_IndexFunc_tremor_Spot_r8.eq_1 := by_rfl f_slices_IndexFunc_tremor_Spot_r8.eq_1
theorem e_slices_IndexFunc_tremor_Spot : type_of% f_slices_IndexFunc_tremor_Spot.eq_1 := by_rfl f_slices_IndexFunc_tremor_Spot.eq_1
theorem ok_slices_IndexFunc_tremor_Spot : fnC Tryz.prog a_slices_IndexFunc_tremor_Spot Tryz.f61 = some f_slices_IndexFunc_tremor_Spot := by kernel_rfl

/-! 62 fumarole/tremor.all[fumarole/tremor.Spot]$1 -/
def f_tremor_all_tremor_Spot_1_r0 : List Abs.Op := [
  ⟨some 2, none, false, .boxi (.t 0)⟩,
  ⟨some 3, none, false, .mv (.c (.bool false))⟩]

def f_tremor_all_tremor_Spot_1_r1 : List Abs.Op := [
  ⟨some 4, none, false, .ld false 1 (.t 1)⟩,
  ⟨some 5, none, false, .ld true 4 (.t 2)⟩,
  ⟨some 6, none, false, .call false (.t 4) [(.t 5)]⟩,
  ⟨some 7, none, false, .un .not (.t 6)⟩,
  ⟨some 3, none, false, .mv (.t 7)⟩]

def a_tremor_all_tremor_Spot_1 : Ann := ⟨[(1, [3]), (0, [1, 2])], [], [], [], [], [], [], [], []⟩
def f_tremor_all_tremor_Spot_1 : Abs.Fn := ⟨2, [.t 3],
  (.seq (.reg [1, 2] f_tremor_all_tremor_Spot_1_r0) (.seq (.reg [3] f_tremor_all_tremor_Spot_1_r1) .ret))⟩

theorem e_tremor_all_tremor_Spot_1_r0 : type_of% f_tremor_all_tremor_Spot_1_r0.eq_1 := by_rfl f_tremor_all_tremor_Spot_1_r0.eq_1
theorem e_tremor_all_tremor_Spot_1_r1 : type_of% f_tremor_all_tremor_Spot_1_r1.eq_1 := by_rfl f_tremor_all_tremor_Spot_1_r1.eq_1
theorem e_tremor_all_tremor_Spot_1 : type_of% f_tremor_all_tremor_Spot_1.eq_1 := by_rfl f_tremor_all_tremor_Spot_1.eq_1
theorem ok_tremor_all_tremor_Spot_1 : fnC Tryz.prog a_tremor_all_tremor_Spot_1 Tryz.f62 = some f_tremor_all_tremor_Spot_1 := by kernel_rfl

/-! 63 fumarole/fumaroleref09.Inside -/
def f_ref09_Inside_r0 : List Abs.Op := [
  ⟨some 3, none, false, .boxi (.t 0)⟩,
  ⟨some 4, none, false, .boxi (.t 1)⟩,
  ⟨some 5, none, false, .boxi (.t 2)⟩,
  ⟨some 6, none, false, .mv (.c (.bool false))⟩]

def f_ref09_Inside_r1 : List Abs.Op := [
  ⟨some 7, none, false, .fadr 0 (.t 3)⟩,
  ⟨some 8, none, false, .ld false 1 (.t 7)⟩,
  ⟨some 9, none, false, .fadr 0 (.t 4)⟩,
  ⟨some 10, none, false, .ld false 1 (.t 9)⟩,
  ⟨some 11, none, false, .fadr 0 (.t 5)⟩,
  ⟨some 12, none, false, .ld false 1 (.t 11)⟩,
  ⟨some 13, none, false, .call false (.c (.fn i_ref09_In [] [])) [(.t 8), (.t 10), (.t 12)]⟩,
  ⟨some 14, none, false, .mv (.t 13)⟩,
  ⟨some 15, some (14, true), false, .fadr 1 (.t 3)⟩,
  ⟨some 16, some (14, true), false, .ld false 1 (.t 15)⟩,
  ⟨some 17, some (14, true), false, .fadr 1 (.t 4)⟩,
  ⟨some 18, some (14, true), false, .ld false 1 (.t 17)⟩,
  ⟨some 19, some (14, true), false, .fadr 1 (.t 5)⟩,
  ⟨some 20, some (14, true), false, .ld false 1 (.t 19)⟩,
  ⟨some 21, some (14, true), false, .call false (.c (.fn i_ref09_In [] [])) [(.t 16), (.t 18), (.t 20)]⟩,
  ⟨some 22, none, false, .pick (.t 14) (.t 21) (.c (.bool false))⟩,
  ⟨some 23, none, false, .mv (.t 22)⟩,
  ⟨some 24, some (23, true), false, .fadr 2 (.t 3)⟩,
  ⟨some 25, some (23, true), false, .ld false 1 (.t 24)⟩,
  ⟨some 26, some (23, true), false, .fadr 2 (.t 4)⟩,
  ⟨some 27, some (23, true), false, .ld false 1 (.t 26)⟩,
  ⟨some 28, some (23, true), false, .fadr 2 (.t 5)⟩,
  ⟨some 29, some (23, true), false, .ld false 1 (.t 28)⟩,
  ⟨some 30, some (23, true), false, .call false (.c (.fn i_ref09_In [] [])) [(.t 25), (.t 27), (.t 29)]⟩,
  ⟨some 31, none, false, .pick (.t 23) (.t 30) (.c (.bool false))⟩,
  ⟨some 6, none, false, .mv (.t 31)⟩]

def a_ref09_Inside : Ann := ⟨[(1, [6]), (0, [3, 4, 5])], [], [], [], [], [], [], [], []⟩
def f_ref09_Inside : Abs.Fn := ⟨3, [.t 6],
  (.seq (.reg [3, 4, 5] f_ref09_Inside_r0) (.seq (.reg [6] f_ref09_Inside_r1) .ret))⟩

theorem e_ref09_Inside_r0 : type_of% f_ref09_Inside_r0.eq_1 := by_rfl f_ref09_Inside_r0.eq_1
theorem e_ref09_Inside_r1 : type_of% f_ref09_Inside_r1.eq_1 := by_rfl f_ref09_Inside_r1.eq_1
theorem e_ref09_Inside : type_of% f_ref09_Inside.eq_1 := by_rfl f_ref09_Inside.eq_1
theorem ok_ref09_Inside : fnC Tryz.prog a_ref09_Inside Tryz.f63 = some f_ref09_Inside := by kernel_rfl

/-! 64 fumarole/tremor.all[fumarole/tremor.Station] -/
def f_tremor_all_tremor_Station_r0 : List Abs.Op := [
  ⟨some 3, none, false, .boxi (.t 1)⟩,
  ⟨some 4, none, false, .mv (.c (.bool false))⟩]

def f_tremor_all_tremor_Station_r1 : List Abs.Op := [
  ⟨some 5, none, false, .mv (.t 0)⟩,
  ⟨some 6, none, false, .mkf i_tremor_all_tremor_Station_1 [] [(.t 3)]⟩,
  ⟨some 7, none, false, .call false (.c (.fn i_slices_ContainsFunc_tremor_Station [] [])) [(.t 5), (.t 6)]⟩,
  ⟨some 8, none, false, .un .not (.t 7)⟩,
  ⟨some 4, none, false, .mv (.t 8)⟩]

def a_tremor_all_tremor_Station : Ann := ⟨[(1, [4]), (0, [0, 3])], [], [], [], [], [], [], [], []⟩
def f_tremor_all_tremor_Station : Abs.Fn := ⟨2, [.t 4],
  (.seq (.reg [0, 3] f_tremor_all_tremor_Station_r0) (.seq (.reg [4] f_tremor_all_tremor_Station_r1) .ret))⟩

theorem e_tremor_all_tremor_Station_r0 : type_of% f_tremor_all_tremor_Station_r0.eq_1 := by_rfl f_tremor_all_tremor_Station_r0.eq_1
theorem e_tremor_all_tremor_Station_r1 : type_of% f_tremor_all_tremor_Station_r1.eq_1 := by_rfl f_tremor_all_tremor_Station_r1.eq_1
theorem e_tremor_all_tremor_Station : type_of% f_tremor_all_tremor_Station.eq_1 := by_rfl f_tremor_all_tremor_Station.eq_1
theorem ok_tremor_all_tremor_Station : fnC Tryz.prog a_tremor_all_tremor_Station Tryz.f64 = some f_tremor_all_tremor_Station := by kernel_rfl

/-! 65 (fumarole/tremor.Station).valid -/
def f_tremor_Station_valid_r0 : List Abs.Op := [
  ⟨some 1, none, false, .boxi (.t 0)⟩,
  ⟨some 2, none, false, .mv (.c (.bool false))⟩]

def f_tremor_Station_valid_r1 : List Abs.Op := [
  ⟨some 3, none, false, .fadr 0 (.t 1)⟩,
  ⟨some 4, none, false, .ld true 3 (.t 3)⟩,
  ⟨some 5, none, false, .call false (.c (.fn i_tremor_Point_valid [] [])) [(.t 4)]⟩,
  ⟨some 6, none, false, .mv (.t 5)⟩,
  ⟨some 7, some (6, true), false, .fadr 3 (.t 1)⟩,
  ⟨some 8, some (6, true), false, .ld false 1 (.t 7)⟩,
  ⟨some 9, some (6, true), false, .call false (.c (.fn i_tremor_within [] [])) [(.t 8), (.c (.int .i64 0)), (.c (.int .i64 1000))]⟩,
  ⟨some 10, none, false, .pick (.t 6) (.t 9) (.c (.bool false))⟩,
  ⟨some 2, none, false, .mv (.t 10)⟩]

def a_tremor_Station_valid : Ann := ⟨[(1, [2]), (0, [1])], [], [], [], [], [], [], [], []⟩
def f_tremor_Station_valid : Abs.Fn := ⟨1, [.t 2],
  (.seq (.reg [1] f_tremor_Station_valid_r0) (.seq (.reg [2] f_tremor_Station_valid_r1) .ret))⟩

theorem e_tremor_Station_valid_r0 : type_of% f_tremor_Station_valid_r0.eq_1 := by_rfl f_tremor_Station_valid_r0.eq_1
theorem e_tremor_Station_valid_r1 : type_of% f_tremor_Station_valid_r1.eq_1 := by_rfl f_tremor_Station_valid_r1.eq_1
theorem e_tremor_Station_valid : type_of% f_tremor_Station_valid.eq_1 := by_rfl f_tremor_Station_valid.eq_1
theorem ok_tremor_Station_valid : fnC Tryz.prog a_tremor_Station_valid Tryz.f65 = some f_tremor_Station_valid := by kernel_rfl

/-! 66 fumarole/tremor.all[fumarole/tremor.Range] -/
def f_tremor_all_tremor_Range_r0 : List Abs.Op := [
  ⟨some 3, none, false, .boxi (.t 1)⟩,
  ⟨some 4, none, false, .mv (.c (.bool false))⟩]

def f_tremor_all_tremor_Range_r1 : List Abs.Op := [
  ⟨some 5, none, false, .mv (.t 0)⟩,
  ⟨some 6, none, false, .mkf i_tremor_all_tremor_Range_1 [] [(.t 3)]⟩,
  ⟨some 7, none, false, .call false (.c (.fn i_slices_ContainsFunc_tremor_Range [] [])) [(.t 5), (.t 6)]⟩,
  ⟨some 8, none, false, .un .not (.t 7)⟩,
  ⟨some 4, none, false, .mv (.t 8)⟩]

def a_tremor_all_tremor_Range : Ann := ⟨[(1, [4]), (0, [0, 3])], [], [], [], [], [], [], [], []⟩
def f_tremor_all_tremor_Range : Abs.Fn := ⟨2, [.t 4],
  (.seq (.reg [0, 3] f_tremor_all_tremor_Range_r0) (.seq (.reg [4] f_tremor_all_tremor_Range_r1) .ret))⟩

theorem e_tremor_all_tremor_Range_r0 : type_of% f_tremor_all_tremor_Range_r0.eq_1 := by_rfl f_tremor_all_tremor_Range_r0.eq_1
theorem e_tremor_all_tremor_Range_r1 : type_of% f_tremor_all_tremor_Range_r1.eq_1 := by_rfl f_tremor_all_tremor_Range_r1.eq_1
theorem e_tremor_all_tremor_Range : type_of% f_tremor_all_tremor_Range.eq_1 := by_rfl f_tremor_all_tremor_Range.eq_1
theorem ok_tremor_all_tremor_Range : fnC Tryz.prog a_tremor_all_tremor_Range Tryz.f66 = some f_tremor_all_tremor_Range := by kernel_rfl

/-! 67 (fumarole/tremor.Net).valid$1 -/
def f_tremor_Net_valid_1_r0 : List Abs.Op := [
  ⟨some 1, none, false, .boxi (.t 0)⟩,
  ⟨some 2, none, false, .mv (.c (.bool false))⟩]

def f_tremor_Net_valid_1_r1 : List Abs.Op := [
  ⟨some 3, none, false, .ld true 2 (.t 1)⟩,
  ⟨some 4, none, false, .call false (.c (.fn i_tremor_Range_in [] [])) [(.t 3), (.c (.int .i64 1)), (.c (.int .i64 2000))]⟩,
  ⟨some 2, none, false, .mv (.t 4)⟩]

def a_tremor_Net_valid_1 : Ann := ⟨[(1, [2]), (0, [1])], [], [], [], [], [], [], [], []⟩
def f_tremor_Net_valid_1 : Abs.Fn := ⟨1, [.t 2],
  (.seq (.reg [1] f_tremor_Net_valid_1_r0) (.seq (.reg [2] f_tremor_Net_valid_1_r1) .ret))⟩

theorem e_tremor_Net_valid_1_r0 : type_of% f_tremor_Net_valid_1_r0.eq_1 := by_rfl f_tremor_Net_valid_1_r0.eq_1
theorem e_tremor_Net_valid_1_r1 : type_of% f_tremor_Net_valid_1_r1.eq_1 := by_rfl f_tremor_Net_valid_1_r1.eq_1
theorem e_tremor_Net_valid_1 : type_of% f_tremor_Net_valid_1.eq_1 := by_rfl f_tremor_Net_valid_1.eq_1
theorem ok_tremor_Net_valid_1 : fnC Tryz.prog a_tremor_Net_valid_1 Tryz.f67 = some f_tremor_Net_valid_1 := by kernel_rfl

/-! 68 (fumarole/tremor.Range).in -/
def f_tremor_Range_in_r0 : List Abs.Op := [
  ⟨some 3, none, false, .boxi (.t 0)⟩,
  ⟨some 6, none, false, .mv (.c (.bool false))⟩]

def f_tremor_Range_in_r1 : List Abs.Op := [
  ⟨some 7, none, false, .mv (.t 1)⟩,
  ⟨some 8, none, false, .fadr 0 (.t 3)⟩,
  ⟨some 9, none, false, .ld false 1 (.t 8)⟩,
  ⟨some 10, none, false, .bin .leq (.t 7) (.t 9)⟩,
  ⟨some 11, none, false, .mv (.t 10)⟩,
  ⟨some 12, some (11, true), false, .fadr 0 (.t 3)⟩,
  ⟨some 13, some (11, true), false, .ld false 1 (.t 12)⟩,
  ⟨some 14, some (11, true), false, .fadr 1 (.t 3)⟩,
  ⟨some 15, some (11, true), false, .ld false 1 (.t 14)⟩,
  ⟨some 16, some (11, true), false, .bin .leq (.t 13) (.t 15)⟩,
  ⟨some 17, none, false, .pick (.t 11) (.t 16) (.c (.bool false))⟩,
  ⟨some 18, none, false, .mv (.t 17)⟩,
  ⟨some 19, some (18, true), false, .fadr 1 (.t 3)⟩,
  ⟨some 20, some (18, true), false, .ld false 1 (.t 19)⟩,
  ⟨some 21, some (18, true), false, .mv (.t 2)⟩,
  ⟨some 22, some (18, true), false, .bin .leq (.t 20) (.t 21)⟩,
  ⟨some 23, none, false, .pick (.t 18) (.t 22) (.c (.bool false))⟩,
  ⟨some 6, none, false, .mv (.t 23)⟩]

def a_tremor_Range_in : Ann := ⟨[(1, [6]), (0, [1, 2, 3])], [], [], [], [], [], [], [], []⟩
def f_tremor_Range_in : Abs.Fn := ⟨3, [.t 6],
  (.seq (.reg [1, 2, 3] f_tremor_Range_in_r0) (.seq (.reg [6] f_tremor_Range_in_r1) .ret))⟩

theorem e_tremor_Range_in_r0 : type_of% f_tremor_Range_in_r0.eq_1 := by_rfl f_tremor_Range_in_r0.eq_1
theorem e_tremor_Range_in_r1 : type_of% f_tremor_Range_in_r1.eq_1 := by_rfl f_tremor_Range_in_r1.eq_1
theorem e_tremor_Range_in : type_of% f_tremor_Range_in.eq_1 := by_rfl f_tremor_Range_in.eq_1
theorem ok_tremor_Range_in : fnC Tryz.prog a_tremor_Range_in Tryz.f68 = some f_tremor_Range_in := by kernel_rfl

/-! 69 (fumarole/tremor.Net).steps -/
def f_tremor_Net_steps_r0 : List Abs.Op := [
  ⟨some 3, none, false, .boxi (.t 0)⟩,
  ⟨some 6, none, false, .mv (.c (.int .i64 0))⟩]

def f_tremor_Net_steps_r1 : List Abs.Op := [
  ⟨some 7, none, false, .mv (.t 2)⟩,
  ⟨some 8, none, false, .mv (.t 1)⟩,
  ⟨some 9, none, false, .bin .sub (.t 7) (.t 8)⟩,
  ⟨some 10, none, false, .fadr 11 (.t 3)⟩,
  ⟨some 11, none, false, .ld false 1 (.t 10)⟩,
  ⟨some 12, none, false, .bin .quo (.t 9) (.t 11)⟩,
  ⟨some 13, none, false, .bin .add (.t 12) (.c (.int .i64 1))⟩,
  ⟨some 6, none, false, .mv (.t 13)⟩]

def a_tremor_Net_steps : Ann := ⟨[(1, [6]), (0, [1, 2, 3])], [], [], [], [], [], [], [], []⟩
def f_tremor_Net_steps : Abs.Fn := ⟨3, [.t 6],
  (.seq (.reg [1, 2, 3] f_tremor_Net_steps_r0) (.seq (.reg [6] f_tremor_Net_steps_r1) .ret))⟩

theorem e_tremor_Net_steps_r0 : type_of% f_tremor_Net_steps_r0.eq_1 := by_rfl f_tremor_Net_steps_r0.eq_1
theorem e_tremor_Net_steps_r1 : type_of% f_tremor_Net_steps_r1.eq_1 := by_rfl f_tremor_Net_steps_r1.eq_1
theorem e_tremor_Net_steps : type_of% f_tremor_Net_steps.eq_1 := by_rfl f_tremor_Net_steps.eq_1
theorem ok_tremor_Net_steps : fnC Tryz.prog a_tremor_Net_steps Tryz.f69 = some f_tremor_Net_steps := by kernel_rfl

/-! 70 (fumarole/tremor.Point).valid$1 -/
def f_tremor_Point_valid_1_r0 : List Abs.Op := [
  ⟨some 2, none, false, .mv (.c (.bool false))⟩]

def f_tremor_Point_valid_1_r1 : List Abs.Op := [
  ⟨some 3, none, false, .mv (.t 0)⟩,
  ⟨some 4, none, false, .call false (.c (.fn i_tremor_within [] [])) [(.t 3), (.c (.int .i64 (-20000))), (.c (.int .i64 20000))]⟩,
  ⟨some 2, none, false, .mv (.t 4)⟩]

def a_tremor_Point_valid_1 : Ann := ⟨[(1, [2]), (0, [0])], [], [], [], [], [], [], [], []⟩
def f_tremor_Point_valid_1 : Abs.Fn := ⟨1, [.t 2],
  (.seq (.reg [0] f_tremor_Point_valid_1_r0) (.seq (.reg [2] f_tremor_Point_valid_1_r1) .ret))⟩

theorem e_tremor_Point_valid_1_r0 : type_of% f_tremor_Point_valid_1_r0.eq_1 := by_rfl f_tremor_Point_valid_1_r0.eq_1
theorem e_tremor_Point_valid_1_r1 : type_of% f_tremor_Point_valid_1_r1.eq_1 := by_rfl f_tremor_Point_valid_1_r1.eq_1
theorem e_tremor_Point_valid_1 : type_of% f_tremor_Point_valid_1.eq_1 := by_rfl f_tremor_Point_valid_1.eq_1
theorem ok_tremor_Point_valid_1 : fnC Tryz.prog a_tremor_Point_valid_1 Tryz.f70 = some f_tremor_Point_valid_1 := by kernel_rfl

/-! 71 fumarole/tremor.all[fumarole/tremor.Pick] -/
def f_tremor_all_tremor_Pick_r0 : List Abs.Op := [
  ⟨some 3, none, false, .boxi (.t 1)⟩,
  ⟨some 4, none, false, .mv (.c (.bool false))⟩]

def f_tremor_all_tremor_Pick_r1 : List Abs.Op := [
  ⟨some 5, none, false, .mv (.t 0)⟩,
  ⟨some 6, none, false, .mkf i_tremor_all_tremor_Pick_1 [] [(.t 3)]⟩,
  ⟨some 7, none, false, .call false (.c (.fn i_slices_ContainsFunc_tremor_Pick [] [])) [(.t 5), (.t 6)]⟩,
  ⟨some 8, none, false, .un .not (.t 7)⟩,
  ⟨some 4, none, false, .mv (.t 8)⟩]

def a_tremor_all_tremor_Pick : Ann := ⟨[(1, [4]), (0, [0, 3])], [], [], [], [], [], [], [], []⟩
def f_tremor_all_tremor_Pick : Abs.Fn := ⟨2, [.t 4],
  (.seq (.reg [0, 3] f_tremor_all_tremor_Pick_r0) (.seq (.reg [4] f_tremor_all_tremor_Pick_r1) .ret))⟩

theorem e_tremor_all_tremor_Pick_r0 : type_of% f_tremor_all_tremor_Pick_r0.eq_1 := by_rfl f_tremor_all_tremor_Pick_r0.eq_1
theorem e_tremor_all_tremor_Pick_r1 : type_of% f_tremor_all_tremor_Pick_r1.eq_1 := by_rfl f_tremor_all_tremor_Pick_r1.eq_1
theorem e_tremor_all_tremor_Pick : type_of% f_tremor_all_tremor_Pick.eq_1 := by_rfl f_tremor_all_tremor_Pick.eq_1
theorem ok_tremor_all_tremor_Pick : fnC Tryz.prog a_tremor_all_tremor_Pick Tryz.f71 = some f_tremor_all_tremor_Pick := by kernel_rfl

/-! 72 (fumarole/tremor.heard).check$1 -/
def f_tremor_heard_check_1_r0 : List Abs.Op := [
  ⟨some 2, none, false, .boxi (.t 0)⟩,
  ⟨some 3, none, false, .mv (.c (.bool false))⟩]

def f_tremor_heard_check_1_r1 : List Abs.Op := [
  ⟨some 4, none, false, .fadr 0 (.t 1)⟩,
  ⟨some 5, none, false, .ld true 12 (.t 4)⟩,
  ⟨some 6, none, false, .fadr 0 (.t 2)⟩,
  ⟨some 7, none, false, .ld false 1 (.t 6)⟩,
  ⟨some 8, none, false, .call false (.c (.fn i_tremor_Net_has [] [])) [(.t 5), (.t 7)]⟩,
  ⟨some 9, none, false, .mv (.t 8)⟩,
  ⟨some 10, some (9, true), false, .fadr 1 (.t 2)⟩,
  ⟨some 11, some (9, true), false, .ld false 1 (.t 10)⟩,
  ⟨some 12, some (9, true), false, .cvt .i64 (.t 11)⟩,
  ⟨some 13, some (9, true), false, .bin .lss (.t 12) (.c (.int .i64 2))⟩,
  ⟨some 14, none, false, .pick (.t 9) (.t 13) (.c (.bool false))⟩,
  ⟨some 15, none, false, .mv (.t 14)⟩,
  ⟨some 16, some (15, true), false, .fadr 2 (.t 2)⟩,
  ⟨some 17, some (15, true), false, .ld true 2 (.t 16)⟩,
  ⟨some 18, some (15, true), false, .call false (.c (.fn i_tremor_Range_in [] [])) [(.t 17), (.c (.int .i64 (-100000000))), (.c (.int .i64 100000000))]⟩,
  ⟨some 19, none, false, .pick (.t 15) (.t 18) (.c (.bool false))⟩,
  ⟨some 3, none, false, .mv (.t 19)⟩]

def a_tremor_heard_check_1 : Ann := ⟨[(1, [3]), (0, [1, 2])], [], [], [], [], [], [], [], []⟩
def f_tremor_heard_check_1 : Abs.Fn := ⟨2, [.t 3],
  (.seq (.reg [1, 2] f_tremor_heard_check_1_r0) (.seq (.reg [3] f_tremor_heard_check_1_r1) .ret))⟩

theorem e_tremor_heard_check_1_r0 : type_of% f_tremor_heard_check_1_r0.eq_1 := by_rfl f_tremor_heard_check_1_r0.eq_1
theorem e_tremor_heard_check_1_r1 : type_of% f_tremor_heard_check_1_r1.eq_1 := by_rfl f_tremor_heard_check_1_r1.eq_1
theorem e_tremor_heard_check_1 : type_of% f_tremor_heard_check_1.eq_1 := by_rfl f_tremor_heard_check_1.eq_1
theorem ok_tremor_heard_check_1 : fnC Tryz.prog a_tremor_heard_check_1 Tryz.f72 = some f_tremor_heard_check_1 := by kernel_rfl

/-! 73 (fumarole/tremor.Net).lattice -/
def f_tremor_Net_lattice_r0 : List Abs.Op := [
  ⟨some 1, none, false, .boxi (.t 0)⟩,
  ⟨some 2, none, false, .mv (.c .nilf)⟩]

def f_tremor_Net_lattice_r1 : List Abs.Op := [
  ⟨some 3, none, false, .mkf i_tremor_Net_lattice_1 [] [(.t 1)]⟩,
  ⟨some 2, none, false, .mv (.t 3)⟩]

def a_tremor_Net_lattice : Ann := ⟨[(1, [2]), (0, [1])], [], [], [], [], [], [], [], []⟩
def f_tremor_Net_lattice : Abs.Fn := ⟨1, [.t 2],
  (.seq (.reg [1] f_tremor_Net_lattice_r0) (.seq (.reg [2] f_tremor_Net_lattice_r1) .ret))⟩

theorem e_tremor_Net_lattice_r0 : type_of% f_tremor_Net_lattice_r0.eq_1 := by_rfl f_tremor_Net_lattice_r0.eq_1
theorem e_tremor_Net_lattice_r1 : type_of% f_tremor_Net_lattice_r1.eq_1 := by_rfl f_tremor_Net_lattice_r1.eq_1
theorem e_tremor_Net_lattice : type_of% f_tremor_Net_lattice.eq_1 := by_rfl f_tremor_Net_lattice.eq_1
theorem ok_tremor_Net_lattice : fnC Tryz.prog a_tremor_Net_lattice Tryz.f73 = some f_tremor_Net_lattice := by kernel_rfl

/-! 74 fumarole/tremor.common -/
def f_tremor_common_r0 : List Abs.Op := [
  ⟨some 2, none, false, .alcv [] [(.int .i64 0), (.int .i64 0)]⟩,
  ⟨some 3, none, false, .mv (.c (.bool false))⟩]

def f_tremor_common_r1 : List Abs.Op := [
  ⟨some 7, none, false, .mv (.t 0)⟩,
  ⟨some 8, none, false, .idxS 2 (.t 7) (.c (.int .i64 0))⟩,
  ⟨some 9, none, false, .ld true 2 (.t 8)⟩,
  ⟨some 4, none, false, .alcv [] [(.int .i64 0), (.int .i64 0)]⟩,
  ⟨none, none, false, .stv 4 [] 2 4 (.t 9)⟩]

def f_tremor_common_r2 : List Abs.Op := [
  ⟨some 10, none, false, .mv (.t 0)⟩,
  ⟨some 11, none, false, .slc 2 (.t 10) (some (.c (.int .i64 1))) none none⟩,
  ⟨some 12, none, false, .lenS (.t 11)⟩,
  ⟨some 13, none, false, .mv (.c (.int .i64 0))⟩]

def f_tremor_common_r3 : List Abs.Op := [
  ⟨some 14, none, false, .bin .lss (.t 13) (.t 12)⟩]

def f_tremor_common_r4 : List Abs.Op := [
  ⟨some 15, none, false, .idxS 2 (.t 11) (.t 13)⟩,
  ⟨some 16, none, false, .ld true 2 (.t 15)⟩,
  ⟨some 6, none, false, .alcv [] [(.int .i64 0), (.int .i64 0)]⟩,
  ⟨none, none, false, .stv 6 [] 2 6 (.t 16)⟩]

def f_tremor_common_r5 : List Abs.Op := [
  ⟨some 17, none, false, .fadr 0 (.t 4)⟩,
  ⟨some 18, none, false, .ldv 4 false 1 17⟩,
  ⟨some 19, none, false, .fadr 0 (.t 6)⟩,
  ⟨some 20, none, false, .ldv 6 false 1 19⟩,
  ⟨some 21, none, false, .mx (.t 18) (.t 20)⟩,
  ⟨some 22, none, false, .fadr 1 (.t 4)⟩,
  ⟨some 23, none, false, .ldv 4 false 1 22⟩,
  ⟨some 24, none, false, .fadr 1 (.t 6)⟩,
  ⟨some 25, none, false, .ldv 6 false 1 24⟩,
  ⟨some 26, none, false, .mn (.t 23) (.t 25)⟩,
  ⟨some 27, none, false, .bld [(.int .i64 0), (.int .i64 0)] [(0, 1, (.t 21)), (1, 1, (.t 26))]⟩,
  ⟨none, none, false, .stv 4 [] 2 4 (.t 27)⟩]

def f_tremor_common_r6 : List Abs.Op := [
  ⟨some 28, none, false, .bin .add (.t 13) (.c (.int .i64 1))⟩,
  ⟨some 13, none, false, .mv (.t 28)⟩]

def f_tremor_common_l7 : Abs.Cmd :=
  (.seq (.reg [2, 4, 11, 12, 13, 14] f_tremor_common_r3) (.seq (.ite (.t 14) .nop (.exit 0)) (.seq (.blk 1 (.seq (.reg [2, 4, 6, 11, 12, 13] f_tremor_common_r4) (.reg [2, 4, 11, 12, 13] f_tremor_common_r5))) (.reg [2, 4, 11, 12, 13] f_tremor_common_r6))))

def f_tremor_common_r8 : List Abs.Op := [
  ⟨some 29, none, true, .ldv 4 true 2 4⟩,
  ⟨some 30, none, true, .fadr 0 (.t 4)⟩,
  ⟨some 31, none, true, .ldv 4 false 1 30⟩,
  ⟨some 32, none, true, .fadr 1 (.t 4)⟩,
  ⟨some 33, none, true, .ldv 4 false 1 32⟩,
  ⟨some 34, none, true, .bin .leq (.t 31) (.t 33)⟩,
  ⟨none, none, true, .stv 2 [] 2 2 (.t 29)⟩,
  ⟨some 3, none, false, .mv (.t 34)⟩]

def a_tremor_common : Ann := ⟨[(7, [2, 3]), (6, [2, 4, 11, 12, 13]), (5, [2, 4, 11, 12, 13]), (4, [2, 4, 6, 11, 12, 13]), (3, [2, 4, 11, 12, 13, 14]), (2, [2, 4, 11, 12, 13]), (1, [0, 2, 4]), (0, [0, 2])], [(0, [2, 4, 11, 12, 13])], [], [2, 4, 6], [2, 4, 6], [], [], [], []⟩
def f_tremor_common : Abs.Fn := ⟨1, [.v 2 true 2, .t 3],
  (.seq (.reg [0, 2] f_tremor_common_r0) (.seq (.reg [0, 2, 4] f_tremor_common_r1) (.seq (.seq (.reg [2, 4, 11, 12, 13] f_tremor_common_r2) (.blk 0 (.loop [2, 4, 11, 12, 13] false f_tremor_common_l7))) (.seq (.reg [2, 3] f_tremor_common_r8) .ret))))⟩

theorem e_tremor_common_r0 : type_of% f_tremor_common_r0.eq_1 := by_rfl f_tremor_common_r0.eq_1
theorem e_tremor_common_r1 : type_of% f_tremor_common_r1.eq_1 := by_rfl f_tremor_common_r1.eq_1
theorem e_tremor_common_r2 : type_of% f_tremor_common_r2.eq_1 := by_rfl f_tremor_common_r2.eq_1
theorem e_tremor_common_r3 : type_of% f_tremor_common_r3.eq_1 := by_rfl f_tremor_common_r3.eq_1
theorem e_tremor_common_r4 : type_of% f_tremor_common_r4.eq_1 := by_rfl f_tremor_common_r4.eq_1
theorem e_tremor_common_r5 : type_of% f_tremor_common_r5.eq_1 := by_rfl f_tremor_common_r5.eq_1
theorem e_tremor_common_r6 : type_of% f_tremor_common_r6.eq_1 := by_rfl f_tremor_common_r6.eq_1
theorem e_tremor_common_l7 : type_of% f_tremor_common_l7.eq_1 := by_rfl f_tremor_common_l7.eq_1
theorem e_tremor_common_r8 : type_of% f_tremor_common_r8.eq_1 := by_rfl f_tremor_common_r8.eq_1
theorem e_tremor_common : type_of% f_tremor_common.eq_1 := by_rfl f_tremor_common.eq_1
theorem ok_tremor_common : fnC Tryz.prog a_tremor_common Tryz.f74 = some f_tremor_common := by kernel_rfl

/-! 75 (fumarole/tremor.heard).spans -/
def f_tremor_heard_spans_r0 : List Abs.Op := [
  ⟨some 3, none, false, .boxi (.t 0)⟩,
  ⟨some 4, none, false, .boxi (.t 1)⟩,
  ⟨some 6, none, false, .nilb 2⟩]

def f_tremor_heard_spans_r1 : List Abs.Op := [
  ⟨some 8, none, false, .fadr 12 (.t 3)⟩,
  ⟨some 9, none, false, .ld false 1 (.t 8)⟩,
  ⟨some 10, none, false, .mv (.t 2)⟩,
  ⟨some 11, none, false, .slc 4 (.t 9) none (some (.t 10)) none⟩,
  ⟨some 12, none, false, .lenS (.t 11)⟩,
  ⟨some 13, none, false, .mv (.c (.int .i64 0))⟩]

def f_tremor_heard_spans_r2 : List Abs.Op := [
  ⟨some 14, none, false, .bin .lss (.t 13) (.t 12)⟩]

def f_tremor_heard_spans_r3 : List Abs.Op := [
  ⟨some 15, none, false, .mv (.t 13)⟩,
  ⟨some 7, none, false, .mv (.t 15)⟩]

def f_tremor_heard_spans_r4 : List Abs.Op := [
  ⟨some 16, none, false, .mv (.t 6)⟩,
  ⟨some 17, none, false, .ld true 13 (.t 3)⟩,
  ⟨some 18, none, false, .ld true 3 (.t 4)⟩,
  ⟨some 19, none, false, .mv (.t 7)⟩,
  ⟨some 20, none, false, .call false (.c (.fn i_tremor_heard_span [] [])) [(.t 17), (.t 18), (.t 19)]⟩,
  ⟨some 21, none, false, .bsi 1 2 [(.int .i64 0), (.int .i64 0)] [(0, 2, (.t 20))]⟩,
  ⟨some 22, none, false, .app 2 16 (.t 16) (.t 21)⟩,
  ⟨some 6, none, false, .mv (.t 22)⟩]

def f_tremor_heard_spans_r5 : List Abs.Op := [
  ⟨some 23, none, false, .bin .add (.t 13) (.c (.int .i64 1))⟩,
  ⟨some 13, none, false, .mv (.t 23)⟩]

def f_tremor_heard_spans_l6 : Abs.Cmd :=
  (.seq (.reg [3, 4, 6, 12, 13, 14] f_tremor_heard_spans_r2) (.seq (.ite (.t 14) .nop (.exit 0)) (.seq (.blk 1 (.seq (.reg [3, 4, 6, 7, 12, 13] f_tremor_heard_spans_r3) (.reg [3, 4, 6, 12, 13] f_tremor_heard_spans_r4))) (.reg [3, 4, 6, 12, 13] f_tremor_heard_spans_r5))))

def f_tremor_heard_spans_r7 : List Abs.Op := [
  ⟨some 24, none, false, .mv (.t 6)⟩,
  ⟨some 6, none, false, .mv (.t 24)⟩]

def a_tremor_heard_spans : Ann := ⟨[(6, [6]), (5, [3, 4, 6, 12, 13]), (4, [3, 4, 6, 12, 13]), (3, [3, 4, 6, 7, 12, 13]), (2, [3, 4, 6, 12, 13, 14]), (1, [3, 4, 6, 12, 13]), (0, [2, 3, 4, 6])], [(0, [3, 4, 6, 12, 13])], [], [6], [], [], [], [], []⟩
def f_tremor_heard_spans : Abs.Fn := ⟨3, [.t 6],
  (.seq (.reg [2, 3, 4, 6] f_tremor_heard_spans_r0) (.seq (.seq (.reg [3, 4, 6, 12, 13] f_tremor_heard_spans_r1) (.blk 0 (.loop [3, 4, 6, 12, 13] false f_tremor_heard_spans_l6))) (.seq (.reg [6] f_tremor_heard_spans_r7) .ret)))⟩

theorem e_tremor_heard_spans_r0 : type_of% f_tremor_heard_spans_r0.eq_1 := by_rfl f_tremor_heard_spans_r0.eq_1
theorem e_tremor_heard_spans_r1 : type_of% f_tremor_heard_spans_r1.eq_1 := by_rfl f_tremor_heard_spans_r1.eq_1
theorem e_tremor_heard_spans_r2 : type_of% f_tremor_heard_spans_r2.eq_1 := by_rfl f_tremor_heard_spans_r2.eq_1
theorem e_tremor_heard_spans_r3 : type_of% f_tremor_heard_spans_r3.eq_1 := by_rfl f_tremor_heard_spans_r3.eq_1
theorem e_tremor_heard_spans_r4 : type_of% f_tremor_heard_spans_r4.eq_1 := by_rfl f_tremor_heard_spans_r4.eq_1
theorem e_tremor_heard_spans_r5 : type_of% f_tremor_heard_spans_r5.eq_1 := by_rfl f_tremor_heard_spans_r5.eq_1
theorem e_tremor_heard_spans_l6 : type_of% f_tremor_heard_spans_l6.eq_1 := by_rfl f_tremor_heard_spans_l6.eq_1
theorem e_tremor_heard_spans_r7 : type_of% f_tremor_heard_spans_r7.eq_1 := by_rfl f_tremor_heard_spans_r7.eq_1
theorem e_tremor_heard_spans : type_of% f_tremor_heard_spans.eq_1 := by_rfl f_tremor_heard_spans.eq_1
theorem ok_tremor_heard_spans : fnC Tryz.prog a_tremor_heard_spans Tryz.f75 = some f_tremor_heard_spans := by kernel_rfl

/-! 76 (fumarole/tremor.Scale).valid$1 -/
def f_tremor_Scale_valid_1_r0 : List Abs.Op := [
  ⟨some 2, none, false, .mv (.c (.bool false))⟩]

def f_tremor_Scale_valid_1_r1 : List Abs.Op := [
  ⟨some 3, none, false, .mv (.t 0)⟩,
  ⟨some 4, none, false, .call false (.c (.fn i_tremor_within [] [])) [(.t 3), (.c (.int .i64 1)), (.c (.int .i64 1000000000))]⟩,
  ⟨some 2, none, false, .mv (.t 4)⟩]

def a_tremor_Scale_valid_1 : Ann := ⟨[(1, [2]), (0, [0])], [], [], [], [], [], [], [], []⟩
def f_tremor_Scale_valid_1 : Abs.Fn := ⟨1, [.t 2],
  (.seq (.reg [0] f_tremor_Scale_valid_1_r0) (.seq (.reg [2] f_tremor_Scale_valid_1_r1) .ret))⟩

theorem e_tremor_Scale_valid_1_r0 : type_of% f_tremor_Scale_valid_1_r0.eq_1 := by_rfl f_tremor_Scale_valid_1_r0.eq_1
theorem e_tremor_Scale_valid_1_r1 : type_of% f_tremor_Scale_valid_1_r1.eq_1 := by_rfl f_tremor_Scale_valid_1_r1.eq_1
theorem e_tremor_Scale_valid_1 : type_of% f_tremor_Scale_valid_1.eq_1 := by_rfl f_tremor_Scale_valid_1.eq_1
theorem ok_tremor_Scale_valid_1 : fnC Tryz.prog a_tremor_Scale_valid_1 Tryz.f76 = some f_tremor_Scale_valid_1 := by kernel_rfl

/-! 77 fumarole/tremor.rising[int] -/
def f_tremor_rising_int_r0 : List Abs.Op := [
  ⟨some 4, none, false, .mv (.c (.bool false))⟩]

def f_tremor_rising_int_r1 : List Abs.Op := [
  ⟨some 6, none, false, .mv (.t 0)⟩,
  ⟨some 7, none, false, .lenS (.t 6)⟩,
  ⟨some 8, none, false, .mv (.c (.int .i64 0))⟩]

def f_tremor_rising_int_r2 : List Abs.Op := [
  ⟨some 9, none, false, .bin .lss (.t 8) (.t 7)⟩]

def f_tremor_rising_int_r3 : List Abs.Op := [
  ⟨some 10, none, false, .mv (.t 8)⟩,
  ⟨some 5, none, false, .mv (.t 10)⟩]

def f_tremor_rising_int_r4 : List Abs.Op := [
  ⟨some 11, none, true, .mv (.t 5)⟩,
  ⟨some 12, none, true, .bin .gtr (.t 11) (.c (.int .i64 0))⟩,
  ⟨some 13, none, true, .mv (.t 12)⟩,
  ⟨some 14, some (13, true), true, .mv (.t 1)⟩,
  ⟨some 15, some (13, true), true, .mv (.t 0)⟩,
  ⟨some 16, some (13, true), true, .mv (.t 5)⟩,
  ⟨some 17, some (13, true), true, .idxS 1 (.t 15) (.t 16)⟩,
  ⟨some 18, some (13, true), true, .ld false 1 (.t 17)⟩,
  ⟨some 19, some (13, true), true, .call false (.t 14) [(.t 18)]⟩,
  ⟨some 20, some (13, true), true, .mv (.t 1)⟩,
  ⟨some 21, some (13, true), true, .mv (.t 0)⟩,
  ⟨some 22, some (13, true), true, .mv (.t 5)⟩,
  ⟨some 23, some (13, true), true, .bin .sub (.t 22) (.c (.int .i64 1))⟩,
  ⟨some 24, some (13, true), true, .idxS 1 (.t 21) (.t 23)⟩,
  ⟨some 25, some (13, true), true, .ld false 1 (.t 24)⟩,
  ⟨some 26, some (13, true), false, .call false (.t 20) [(.t 25)]⟩,
  ⟨some 27, some (13, true), false, .bin .leq (.t 19) (.t 26)⟩,
  ⟨some 28, none, false, .pick (.t 13) (.t 27) (.c (.bool false))⟩]

def f_tremor_rising_int_r5 : List Abs.Op := [
  ⟨some 4, none, false, .mv (.c (.bool false))⟩]

def f_tremor_rising_int_r6 : List Abs.Op := [
  ⟨some 29, none, false, .bin .add (.t 8) (.c (.int .i64 1))⟩,
  ⟨some 8, none, false, .mv (.t 29)⟩]

def f_tremor_rising_int_l7 : Abs.Cmd :=
  (.seq (.reg [0, 1, 7, 8, 9] f_tremor_rising_int_r2) (.seq (.ite (.t 9) .nop (.exit 0)) (.seq (.blk 1 (.seq (.reg [0, 1, 5, 7, 8] f_tremor_rising_int_r3) (.seq (.reg [0, 1, 7, 8, 28] f_tremor_rising_int_r4) (.ite (.t 28) (.seq (.reg [4] f_tremor_rising_int_r5) .ret) .nop)))) (.reg [0, 1, 7, 8] f_tremor_rising_int_r6))))

def f_tremor_rising_int_r8 : List Abs.Op := [
  ⟨some 4, none, false, .mv (.c (.bool true))⟩]

def a_tremor_rising_int : Ann := ⟨[(7, [4]), (6, [0, 1, 7, 8]), (5, [4]), (4, [0, 1, 7, 8, 28]), (3, [0, 1, 5, 7, 8]), (2, [0, 1, 7, 8, 9]), (1, [0, 1, 7, 8]), (0, [0, 1])], [(0, [0, 1, 7, 8])], [], [], [], [], [], [], []⟩
def f_tremor_rising_int : Abs.Fn := ⟨2, [.t 4],
  (.seq (.reg [0, 1] f_tremor_rising_int_r0) (.seq (.seq (.reg [0, 1, 7, 8] f_tremor_rising_int_r1) (.blk 0 (.loop [0, 1, 7, 8] false f_tremor_rising_int_l7))) (.seq (.reg [4] f_tremor_rising_int_r8) .ret)))⟩

theorem e_tremor_rising_int_r0 : type_of% f_tremor_rising_int_r0.eq_1 := by_rfl f_tremor_rising_int_r0.eq_1
theorem e_tremor_rising_int_r1 : type_of% f_tremor_rising_int_r1.eq_1 := by_rfl f_tremor_rising_int_r1.eq_1
theorem e_tremor_rising_int_r2 : type_of% f_tremor_rising_int_r2.eq_1 := by_rfl f_tremor_rising_int_r2.eq_1
theorem e_tremor_rising_int_r3 : type_of% f_tremor_rising_int_r3.eq_1 := by_rfl f_tremor_rising_int_r3.eq_1
theorem e_tremor_rising_int_r4 : type_of% f_tremor_rising_int_r4.eq_1 := by_rfl f_tremor_rising_int_r4.eq_1
theorem e_tremor_rising_int_r5 : type_of% f_tremor_rising_int_r5.eq_1 := by_rfl f_tremor_rising_int_r5.eq_1
theorem e_tremor_rising_int_r6 : type_of% f_tremor_rising_int_r6.eq_1 := by_rfl f_tremor_rising_int_r6.eq_1
theorem e_tremor_rising_int_l7 : type_of% f_tremor_rising_int_l7.eq_1 := by_rfl f_tremor_rising_int_l7.eq_1
theorem e_tremor_rising_int_r8 : type_of% f_tremor_rising_int_r8.eq_1 := by_rfl f_tremor_rising_int_r8.eq_1
theorem e_tremor_rising_int : type_of% f_tremor_rising_int.eq_1 := by_rfl f_tremor_rising_int.eq_1
theorem ok_tremor_rising_int : fnC Tryz.prog a_tremor_rising_int Tryz.f77 = some f_tremor_rising_int := by kernel_rfl

/-! 78 (fumarole/tremor.Scale).valid$2 -/
def f_tremor_Scale_valid_2_r0 : List Abs.Op := [
  ⟨some 2, none, false, .mv (.c (.int .i64 0))⟩]

def f_tremor_Scale_valid_2_r1 : List Abs.Op := [
  ⟨some 3, none, false, .mv (.t 0)⟩,
  ⟨some 2, none, false, .mv (.t 3)⟩]

def a_tremor_Scale_valid_2 : Ann := ⟨[(1, [2]), (0, [0])], [], [], [], [], [], [], [], []⟩
def f_tremor_Scale_valid_2 : Abs.Fn := ⟨1, [.t 2],
  (.seq (.reg [0] f_tremor_Scale_valid_2_r0) (.seq (.reg [2] f_tremor_Scale_valid_2_r1) .ret))⟩

theorem e_tremor_Scale_valid_2_r0 : type_of% f_tremor_Scale_valid_2_r0.eq_1 := by_rfl f_tremor_Scale_valid_2_r0.eq_1
theorem e_tremor_Scale_valid_2_r1 : type_of% f_tremor_Scale_valid_2_r1.eq_1 := by_rfl f_tremor_Scale_valid_2_r1.eq_1
theorem e_tremor_Scale_valid_2 : type_of% f_tremor_Scale_valid_2.eq_1 := by_rfl f_tremor_Scale_valid_2.eq_1
theorem ok_tremor_Scale_valid_2 : fnC Tryz.prog a_tremor_Scale_valid_2 Tryz.f78 = some f_tremor_Scale_valid_2 := by kernel_rfl

/-! 79 fumarole/tremor.all[fumarole/tremor.Row] -/
def f_tremor_all_tremor_Row_r0 : List Abs.Op := [
  ⟨some 3, none, false, .boxi (.t 1)⟩,
  ⟨some 4, none, false, .mv (.c (.bool false))⟩]

def f_tremor_all_tremor_Row_r1 : List Abs.Op := [
  ⟨some 5, none, false, .mv (.t 0)⟩,
  ⟨some 6, none, false, .mkf i_tremor_all_tremor_Row_1 [] [(.t 3)]⟩,
  ⟨some 7, none, false, .call false (.c (.fn i_slices_ContainsFunc_tremor_Row [] [])) [(.t 5), (.t 6)]⟩,
  ⟨some 8, none, false, .un .not (.t 7)⟩,
  ⟨some 4, none, false, .mv (.t 8)⟩]

def a_tremor_all_tremor_Row : Ann := ⟨[(1, [4]), (0, [0, 3])], [], [], [], [], [], [], [], []⟩
def f_tremor_all_tremor_Row : Abs.Fn := ⟨2, [.t 4],
  (.seq (.reg [0, 3] f_tremor_all_tremor_Row_r0) (.seq (.reg [4] f_tremor_all_tremor_Row_r1) .ret))⟩

theorem e_tremor_all_tremor_Row_r0 : type_of% f_tremor_all_tremor_Row_r0.eq_1 := by_rfl f_tremor_all_tremor_Row_r0.eq_1
theorem e_tremor_all_tremor_Row_r1 : type_of% f_tremor_all_tremor_Row_r1.eq_1 := by_rfl f_tremor_all_tremor_Row_r1.eq_1
theorem e_tremor_all_tremor_Row : type_of% f_tremor_all_tremor_Row.eq_1 := by_rfl f_tremor_all_tremor_Row.eq_1
theorem ok_tremor_all_tremor_Row : fnC Tryz.prog a_tremor_all_tremor_Row Tryz.f79 = some f_tremor_all_tremor_Row := by kernel_rfl

/-! 80 (fumarole/tremor.Scale).valid$3 -/
def f_tremor_Scale_valid_3_r0 : List Abs.Op := [
  ⟨some 1, none, false, .boxi (.t 0)⟩,
  ⟨some 2, none, false, .mv (.c (.bool false))⟩]

def f_tremor_Scale_valid_3_r1 : List Abs.Op := [
  ⟨some 3, none, false, .fadr 0 (.t 1)⟩,
  ⟨some 4, none, false, .ld false 1 (.t 3)⟩,
  ⟨some 5, none, false, .call false (.c (.fn i_tremor_within [] [])) [(.t 4), (.c (.int .i64 0)), (.c (.int .i64 20000))]⟩,
  ⟨some 6, none, false, .mv (.t 5)⟩,
  ⟨some 7, some (6, true), false, .fadr 1 (.t 1)⟩,
  ⟨some 8, some (6, true), false, .ld false 1 (.t 7)⟩,
  ⟨some 9, some (6, true), false, .call false (.c (.fn i_tremor_within [] [])) [(.t 8), (.c (.int .i64 0)), (.c (.int .i64 100))]⟩,
  ⟨some 10, none, false, .pick (.t 6) (.t 9) (.c (.bool false))⟩,
  ⟨some 2, none, false, .mv (.t 10)⟩]

def a_tremor_Scale_valid_3 : Ann := ⟨[(1, [2]), (0, [1])], [], [], [], [], [], [], [], []⟩
def f_tremor_Scale_valid_3 : Abs.Fn := ⟨1, [.t 2],
  (.seq (.reg [1] f_tremor_Scale_valid_3_r0) (.seq (.reg [2] f_tremor_Scale_valid_3_r1) .ret))⟩

theorem e_tremor_Scale_valid_3_r0 : type_of% f_tremor_Scale_valid_3_r0.eq_1 := by_rfl f_tremor_Scale_valid_3_r0.eq_1
theorem e_tremor_Scale_valid_3_r1 : type_of% f_tremor_Scale_valid_3_r1.eq_1 := by_rfl f_tremor_Scale_valid_3_r1.eq_1
theorem e_tremor_Scale_valid_3 : type_of% f_tremor_Scale_valid_3.eq_1 := by_rfl f_tremor_Scale_valid_3.eq_1
theorem ok_tremor_Scale_valid_3 : fnC Tryz.prog a_tremor_Scale_valid_3 Tryz.f80 = some f_tremor_Scale_valid_3 := by kernel_rfl

/-! 81 fumarole/tremor.rising[fumarole/tremor.Row] -/
def f_tremor_rising_tremor_Row_r0 : List Abs.Op := [
  ⟨some 4, none, false, .mv (.c (.bool false))⟩]

def f_tremor_rising_tremor_Row_r1 : List Abs.Op := [
  ⟨some 6, none, false, .mv (.t 0)⟩,
  ⟨some 7, none, false, .lenS (.t 6)⟩,
  ⟨some 8, none, false, .mv (.c (.int .i64 0))⟩]

def f_tremor_rising_tremor_Row_r2 : List Abs.Op := [
  ⟨some 9, none, false, .bin .lss (.t 8) (.t 7)⟩]

def f_tremor_rising_tremor_Row_r3 : List Abs.Op := [
  ⟨some 10, none, false, .mv (.t 8)⟩,
  ⟨some 5, none, false, .mv (.t 10)⟩]

def f_tremor_rising_tremor_Row_r4 : List Abs.Op := [
  ⟨some 11, none, true, .mv (.t 5)⟩,
  ⟨some 12, none, true, .bin .gtr (.t 11) (.c (.int .i64 0))⟩,
  ⟨some 13, none, true, .mv (.t 12)⟩,
  ⟨some 14, some (13, true), true, .mv (.t 1)⟩,
  ⟨some 15, some (13, true), true, .mv (.t 0)⟩,
  ⟨some 16, some (13, true), true, .mv (.t 5)⟩,
  ⟨some 17, some (13, true), true, .idxS 2 (.t 15) (.t 16)⟩,
  ⟨some 18, some (13, true), true, .ld true 2 (.t 17)⟩,
  ⟨some 19, some (13, true), true, .call false (.t 14) [(.t 18)]⟩,
  ⟨some 20, some (13, true), true, .mv (.t 1)⟩,
  ⟨some 21, some (13, true), true, .mv (.t 0)⟩,
  ⟨some 22, some (13, true), true, .mv (.t 5)⟩,
  ⟨some 23, some (13, true), true, .bin .sub (.t 22) (.c (.int .i64 1))⟩,
  ⟨some 24, some (13, true), true, .idxS 2 (.t 21) (.t 23)⟩,
  ⟨some 25, some (13, true), true, .ld true 2 (.t 24)⟩,
  ⟨some 26, some (13, true), false, .call false (.t 20) [(.t 25)]⟩,
  ⟨some 27, some (13, true), false, .bin .leq (.t 19) (.t 26)⟩,
  ⟨some 28, none, false, .pick (.t 13) (.t 27) (.c (.bool false))⟩]

def f_tremor_rising_tremor_Row_r5 : List Abs.Op := [
  ⟨some 4, none, false, .mv (.c (.bool false))⟩]

def f_tremor_rising_tremor_Row_r6 : List Abs.Op := [
  ⟨some 29, none, false, .bin .add (.t 8) (.c (.int .i64 1))⟩,
  ⟨some 8, none, false, .mv (.t 29)⟩]

def f_tremor_rising_tremor_Row_l7 : Abs.Cmd :=
  (.seq (.reg [0, 1, 7, 8, 9] f_tremor_rising_tremor_Row_r2) (.seq (.ite (.t 9) .nop (.exit 0)) (.seq (.blk 1 (.seq (.reg [0, 1, 5, 7, 8] f_tremor_rising_tremor_Row_r3) (.seq (.reg [0, 1, 7, 8, 28] f_tremor_rising_tremor_Row_r4) (.ite (.t 28) (.seq (.reg [4] f_tremor_rising_tremor_Row_r5) .ret) .nop)))) (.reg [0, 1, 7, 8] f_tremor_rising_tremor_Row_r6))))

def f_tremor_rising_tremor_Row_r8 : List Abs.Op := [
  ⟨some 4, none, false, .mv (.c (.bool true))⟩]

def a_tremor_rising_tremor_Row : Ann := ⟨[(7, [4]), (6, [0, 1, 7, 8]), (5, [4]), (4, [0, 1, 7, 8, 28]), (3, [0, 1, 5, 7, 8]), (2, [0, 1, 7, 8, 9]), (1, [0, 1, 7, 8]), (0, [0, 1])], [(0, [0, 1, 7, 8])], [], [], [], [], [], [], []⟩
def f_tremor_rising_tremor_Row : Abs.Fn := ⟨2, [.t 4],
  (.seq (.reg [0, 1] f_tremor_rising_tremor_Row_r0) (.seq (.seq (.reg [0, 1, 7, 8] f_tremor_rising_tremor_Row_r1) (.blk 0 (.loop [0, 1, 7, 8] false f_tremor_rising_tremor_Row_l7))) (.seq (.reg [4] f_tremor_rising_tremor_Row_r8) .ret)))⟩

theorem e_tremor_rising_tremor_Row_r0 : type_of% f_tremor_rising_tremor_Row_r0.eq_1 := by_rfl f_tremor_rising_tremor_Row_r0.eq_1
theorem e_tremor_rising_tremor_Row_r1 : type_of% f_tremor_rising_tremor_Row_r1.eq_1 := by_rfl f_tremor_rising_tremor_Row_r1.eq_1
theorem e_tremor_rising_tremor_Row_r2 : type_of% f_tremor_rising_tremor_Row_r2.eq_1 := by_rfl f_tremor_rising_tremor_Row_r2.eq_1
theorem e_tremor_rising_tremor_Row_r3 : type_of% f_tremor_rising_tremor_Row_r3.eq_1 := by_rfl f_tremor_rising_tremor_Row_r3.eq_1
theorem e_tremor_rising_tremor_Row_r4 : type_of% f_tremor_rising_tremor_Row_r4.eq_1 := by_rfl f_tremor_rising_tremor_Row_r4.eq_1
theorem e_tremor_rising_tremor_Row_r5 : type_of% f_tremor_rising_tremor_Row_r5.eq_1 := by_rfl f_tremor_rising_tremor_Row_r5.eq_1
theorem e_tremor_rising_tremor_Row_r6 : type_of% f_tremor_rising_tremor_Row_r6.eq_1 := by_rfl f_tremor_rising_tremor_Row_r6.eq_1
theorem e_tremor_rising_tremor_Row_l7 : type_of% f_tremor_rising_tremor_Row_l7.eq_1 := by_rfl f_tremor_rising_tremor_Row_l7.eq_1
theorem e_tremor_rising_tremor_Row_r8 : type_of% f_tremor_rising_tremor_Row_r8.eq_1 := by_rfl f_tremor_rising_tremor_Row_r8.eq_1
theorem e_tremor_rising_tremor_Row : type_of% f_tremor_rising_tremor_Row.eq_1 := by_rfl f_tremor_rising_tremor_Row.eq_1
theorem ok_tremor_rising_tremor_Row : fnC Tryz.prog a_tremor_rising_tremor_Row Tryz.f81 = some f_tremor_rising_tremor_Row := by kernel_rfl

/-! 82 (fumarole/tremor.Scale).valid$4 -/
def f_tremor_Scale_valid_4_r0 : List Abs.Op := [
  ⟨some 1, none, false, .boxi (.t 0)⟩,
  ⟨some 2, none, false, .mv (.c (.int .i64 0))⟩]

def f_tremor_Scale_valid_4_r1 : List Abs.Op := [
  ⟨some 3, none, false, .fadr 0 (.t 1)⟩,
  ⟨some 4, none, false, .ld false 1 (.t 3)⟩,
  ⟨some 2, none, false, .mv (.t 4)⟩]

def a_tremor_Scale_valid_4 : Ann := ⟨[(1, [2]), (0, [1])], [], [], [], [], [], [], [], []⟩
def f_tremor_Scale_valid_4 : Abs.Fn := ⟨1, [.t 2],
  (.seq (.reg [1] f_tremor_Scale_valid_4_r0) (.seq (.reg [2] f_tremor_Scale_valid_4_r1) .ret))⟩

theorem e_tremor_Scale_valid_4_r0 : type_of% f_tremor_Scale_valid_4_r0.eq_1 := by_rfl f_tremor_Scale_valid_4_r0.eq_1
theorem e_tremor_Scale_valid_4_r1 : type_of% f_tremor_Scale_valid_4_r1.eq_1 := by_rfl f_tremor_Scale_valid_4_r1.eq_1
theorem e_tremor_Scale_valid_4 : type_of% f_tremor_Scale_valid_4.eq_1 := by_rfl f_tremor_Scale_valid_4.eq_1
theorem ok_tremor_Scale_valid_4 : fnC Tryz.prog a_tremor_Scale_valid_4 Tryz.f82 = some f_tremor_Scale_valid_4 := by kernel_rfl

/-! 83 slices.ContainsFunc[[]fumarole/tremor.Reading,fumarole/tremor.Reading] -/
def f_slices_ContainsFunc_tremor_Reading_r0 : List Abs.Op := [
  ⟨some 4, none, false, .mv (.c (.bool false))⟩]

def f_slices_ContainsFunc_tremor_Reading_r1 : List Abs.Op := [
  ⟨some 5, none, false, .mv (.t 0)⟩,
  ⟨some 6, none, false, .mv (.t 1)⟩,
  ⟨some 7, none, false, .call false (.c (.fn i_slices_IndexFunc_tremor_Reading [] [])) [(.t 5), (.t 6)]⟩,
  ⟨some 8, none, false, .bin .geq (.t 7) (.c (.int .i64 0))⟩,
  ⟨some 4, none, false, .mv (.t 8)⟩]

def a_slices_ContainsFunc_tremor_Reading : Ann := ⟨[(1, [4]), (0, [0, 1])], [], [], [], [], [], [], [], []⟩
def f_slices_ContainsFunc_tremor_Reading : Abs.Fn := ⟨2, [.t 4],
  (.seq (.reg [0, 1] f_slices_ContainsFunc_tremor_Reading_r0) (.seq (.reg [4] f_slices_ContainsFunc_tremor_Reading_r1) .ret))⟩

theorem e_slices_ContainsFunc_tremor_Reading_r0 : type_of% f_slices_ContainsFunc_tremor_Reading_r0.eq_1 := by_rfl f_slices_ContainsFunc_tremor_Reading_r0.eq_1
theorem e_slices_ContainsFunc_tremor_Reading_r1 : type_of% f_slices_ContainsFunc_tremor_Reading_r1.eq_1 := by_rfl f_slices_ContainsFunc_tremor_Reading_r1.eq_1
theorem e_slices_ContainsFunc_tremor_Reading : type_of% f_slices_ContainsFunc_tremor_Reading.eq_1 := by_rfl f_slices_ContainsFunc_tremor_Reading.eq_1
theorem ok_slices_ContainsFunc_tremor_Reading : fnC Tryz.prog a_slices_ContainsFunc_tremor_Reading Tryz.f83 = some f_slices_ContainsFunc_tremor_Reading := by kernel_rfl

/-! 84 fumarole/tremor.all[fumarole/tremor.Reading]$1 -/
def f_tremor_all_tremor_Reading_1_r0 : List Abs.Op := [
  ⟨some 2, none, false, .boxi (.t 0)⟩,
  ⟨some 3, none, false, .mv (.c (.bool false))⟩]

def f_tremor_all_tremor_Reading_1_r1 : List Abs.Op := [
  ⟨some 4, none, false, .ld false 1 (.t 1)⟩,
  ⟨some 5, none, false, .ld true 2 (.t 2)⟩,
  ⟨some 6, none, false, .call false (.t 4) [(.t 5)]⟩,
  ⟨some 7, none, false, .un .not (.t 6)⟩,
  ⟨some 3, none, false, .mv (.t 7)⟩]

def a_tremor_all_tremor_Reading_1 : Ann := ⟨[(1, [3]), (0, [1, 2])], [], [], [], [], [], [], [], []⟩
def f_tremor_all_tremor_Reading_1 : Abs.Fn := ⟨2, [.t 3],
  (.seq (.reg [1, 2] f_tremor_all_tremor_Reading_1_r0) (.seq (.reg [3] f_tremor_all_tremor_Reading_1_r1) .ret))⟩

theorem e_tremor_all_tremor_Reading_1_r0 : type_of% f_tremor_all_tremor_Reading_1_r0.eq_1 := by_rfl f_tremor_all_tremor_Reading_1_r0.eq_1
theorem e_tremor_all_tremor_Reading_1_r1 : type_of% f_tremor_all_tremor_Reading_1_r1.eq_1 := by_rfl f_tremor_all_tremor_Reading_1_r1.eq_1
theorem e_tremor_all_tremor_Reading_1 : type_of% f_tremor_all_tremor_Reading_1.eq_1 := by_rfl f_tremor_all_tremor_Reading_1.eq_1
theorem ok_tremor_all_tremor_Reading_1 : fnC Tryz.prog a_tremor_all_tremor_Reading_1 Tryz.f84 = some f_tremor_all_tremor_Reading_1 := by kernel_rfl

/-! 85 (fumarole/tremor.Bet).going$1 -/
def f_tremor_Bet_going_1_r0 : List Abs.Op := [
  ⟨some 4, none, false, .mv (.c (.int .i64 0))⟩]

def f_tremor_Bet_going_1_r1 : List Abs.Op := [
  ⟨some 5, none, false, .mv (.t 0)⟩]

def f_tremor_Bet_going_1_r2 : List Abs.Op := [
  ⟨some 6, none, false, .ld false 1 (.t 1)⟩,
  ⟨some 7, none, false, .fadr 3 (.t 2)⟩,
  ⟨some 8, none, false, .ld false 1 (.t 7)⟩,
  ⟨some 9, none, false, .fadr 0 (.t 2)⟩,
  ⟨some 10, none, false, .ld false 1 (.t 9)⟩,
  ⟨some 11, none, false, .bin .mul (.t 8) (.t 10)⟩,
  ⟨some 12, none, false, .fadr 2 (.t 2)⟩,
  ⟨some 13, none, false, .ld false 1 (.t 12)⟩,
  ⟨some 14, none, false, .fadr 1 (.t 2)⟩,
  ⟨some 15, none, false, .ld false 1 (.t 14)⟩,
  ⟨some 16, none, false, .fadr 0 (.t 2)⟩,
  ⟨some 17, none, false, .ld false 1 (.t 16)⟩,
  ⟨some 18, none, false, .bin .sub (.t 15) (.t 17)⟩,
  ⟨some 19, none, false, .bin .mul (.t 13) (.t 18)⟩,
  ⟨some 20, none, false, .bin .add (.t 11) (.t 19)⟩,
  ⟨some 21, none, false, .bin .mul (.t 6) (.t 20)⟩,
  ⟨some 22, none, false, .fadr 3 (.t 2)⟩,
  ⟨some 23, none, false, .ld false 1 (.t 22)⟩,
  ⟨some 24, none, false, .fadr 0 (.t 2)⟩,
  ⟨some 25, none, false, .ld false 1 (.t 24)⟩,
  ⟨some 26, none, false, .bin .mul (.t 23) (.t 25)⟩,
  ⟨some 27, none, false, .bin .quo (.t 21) (.t 26)⟩,
  ⟨none, none, false, .st [] 1 (.t 1) (.t 27)⟩]

def f_tremor_Bet_going_1_r3 : List Abs.Op := [
  ⟨some 28, none, false, .ld false 1 (.t 1)⟩,
  ⟨some 29, none, false, .fadr 3 (.t 2)⟩,
  ⟨some 30, none, false, .ld false 1 (.t 29)⟩,
  ⟨some 31, none, false, .fadr 2 (.t 2)⟩,
  ⟨some 32, none, false, .ld false 1 (.t 31)⟩,
  ⟨some 33, none, false, .bin .sub (.t 30) (.t 32)⟩,
  ⟨some 34, none, false, .bin .mul (.t 28) (.t 33)⟩,
  ⟨some 35, none, false, .fadr 3 (.t 2)⟩,
  ⟨some 36, none, false, .ld false 1 (.t 35)⟩,
  ⟨some 37, none, false, .bin .quo (.t 34) (.t 36)⟩,
  ⟨none, none, false, .st [] 1 (.t 1) (.t 37)⟩]

def f_tremor_Bet_going_1_r4 : List Abs.Op := [
  ⟨some 38, none, false, .ld false 1 (.t 1)⟩,
  ⟨some 39, none, false, .mn (.t 38) (.c (.int .i64 1000000000000))⟩,
  ⟨none, none, false, .st [] 1 (.t 1) (.t 39)⟩]

def f_tremor_Bet_going_1_r5 : List Abs.Op := [
  ⟨some 40, none, false, .ld false 1 (.t 1)⟩,
  ⟨some 4, none, false, .mv (.t 40)⟩]

def a_tremor_Bet_going_1 : Ann := ⟨[(5, [4]), (4, [1]), (2, [1]), (3, [1]), (1, [1, 2, 5]), (0, [0, 1, 2])], [], [], [1], [], [], [], [], []⟩
def f_tremor_Bet_going_1 : Abs.Fn := ⟨3, [.t 4],
  (.seq (.reg [0, 1, 2] f_tremor_Bet_going_1_r0) (.seq (.seq (.reg [1, 2, 5] f_tremor_Bet_going_1_r1) (.ite (.t 5) (.reg [1] f_tremor_Bet_going_1_r2) (.reg [1] f_tremor_Bet_going_1_r3))) (.seq (.reg [1] f_tremor_Bet_going_1_r4) (.seq (.reg [4] f_tremor_Bet_going_1_r5) .ret))))⟩

theorem e_tremor_Bet_going_1_r0 : type_of% f_tremor_Bet_going_1_r0.eq_1 := by_rfl f_tremor_Bet_going_1_r0.eq_1
theorem e_tremor_Bet_going_1_r1 : type_of% f_tremor_Bet_going_1_r1.eq_1 := by_rfl f_tremor_Bet_going_1_r1.eq_1
theorem e_tremor_Bet_going_1_r2 : type_of% f_tremor_Bet_going_1_r2.eq_1 := by_rfl f_tremor_Bet_going_1_r2.eq_1
theorem e_tremor_Bet_going_1_r3 : type_of% f_tremor_Bet_going_1_r3.eq_1 := by_rfl f_tremor_Bet_going_1_r3.eq_1
theorem e_tremor_Bet_going_1_r4 : type_of% f_tremor_Bet_going_1_r4.eq_1 := by_rfl f_tremor_Bet_going_1_r4.eq_1
theorem e_tremor_Bet_going_1_r5 : type_of% f_tremor_Bet_going_1_r5.eq_1 := by_rfl f_tremor_Bet_going_1_r5.eq_1
theorem e_tremor_Bet_going_1 : type_of% f_tremor_Bet_going_1.eq_1 := by_rfl f_tremor_Bet_going_1.eq_1
theorem ok_tremor_Bet_going_1 : fnC Tryz.prog a_tremor_Bet_going_1 Tryz.f85 = some f_tremor_Bet_going_1 := by kernel_rfl

/-! 86 slices.ContainsFunc[[]int,int] -/
def f_slices_ContainsFunc_int_r0 : List Abs.Op := [
  ⟨some 4, none, false, .mv (.c (.bool false))⟩]

def f_slices_ContainsFunc_int_r1 : List Abs.Op := [
  ⟨some 5, none, false, .mv (.t 0)⟩,
  ⟨some 6, none, false, .mv (.t 1)⟩,
  ⟨some 7, none, false, .call false (.c (.fn i_slices_IndexFunc_int [] [])) [(.t 5), (.t 6)]⟩,
  ⟨some 8, none, false, .bin .geq (.t 7) (.c (.int .i64 0))⟩,
  ⟨some 4, none, false, .mv (.t 8)⟩]

def a_slices_ContainsFunc_int : Ann := ⟨[(1, [4]), (0, [0, 1])], [], [], [], [], [], [], [], []⟩
def f_slices_ContainsFunc_int : Abs.Fn := ⟨2, [.t 4],
  (.seq (.reg [0, 1] f_slices_ContainsFunc_int_r0) (.seq (.reg [4] f_slices_ContainsFunc_int_r1) .ret))⟩

theorem e_slices_ContainsFunc_int_r0 : type_of% f_slices_ContainsFunc_int_r0.eq_1 := by_rfl f_slices_ContainsFunc_int_r0.eq_1
theorem e_slices_ContainsFunc_int_r1 : type_of% f_slices_ContainsFunc_int_r1.eq_1 := by_rfl f_slices_ContainsFunc_int_r1.eq_1
theorem e_slices_ContainsFunc_int : type_of% f_slices_ContainsFunc_int.eq_1 := by_rfl f_slices_ContainsFunc_int.eq_1
theorem ok_slices_ContainsFunc_int : fnC Tryz.prog a_slices_ContainsFunc_int Tryz.f86 = some f_slices_ContainsFunc_int := by kernel_rfl

/-! 87 fumarole/tremor.all[int]$1 -/
def f_tremor_all_int_1_r0 : List Abs.Op := [
  ⟨some 3, none, false, .mv (.c (.bool false))⟩]

def f_tremor_all_int_1_r1 : List Abs.Op := [
  ⟨some 4, none, false, .ld false 1 (.t 1)⟩,
  ⟨some 5, none, false, .mv (.t 0)⟩,
  ⟨some 6, none, false, .call false (.t 4) [(.t 5)]⟩,
  ⟨some 7, none, false, .un .not (.t 6)⟩,
  ⟨some 3, none, false, .mv (.t 7)⟩]

def a_tremor_all_int_1 : Ann := ⟨[(1, [3]), (0, [0, 1])], [], [], [], [], [], [], [], []⟩
def f_tremor_all_int_1 : Abs.Fn := ⟨2, [.t 3],
  (.seq (.reg [0, 1] f_tremor_all_int_1_r0) (.seq (.reg [3] f_tremor_all_int_1_r1) .ret))⟩

theorem e_tremor_all_int_1_r0 : type_of% f_tremor_all_int_1_r0.eq_1 := by_rfl f_tremor_all_int_1_r0.eq_1
theorem e_tremor_all_int_1_r1 : type_of% f_tremor_all_int_1_r1.eq_1 := by_rfl f_tremor_all_int_1_r1.eq_1
theorem e_tremor_all_int_1 : type_of% f_tremor_all_int_1.eq_1 := by_rfl f_tremor_all_int_1.eq_1
theorem ok_tremor_all_int_1 : fnC Tryz.prog a_tremor_all_int_1 Tryz.f87 = some f_tremor_all_int_1 := by kernel_rfl

/-! 88 slices.ContainsFunc[[]uint8,uint8] -/
def f_slices_ContainsFunc_uint8_r0 : List Abs.Op := [
  ⟨some 4, none, false, .mv (.c (.bool false))⟩]

def f_slices_ContainsFunc_uint8_r1 : List Abs.Op := [
  ⟨some 5, none, false, .mv (.t 0)⟩,
  ⟨some 6, none, false, .mv (.t 1)⟩,
  ⟨some 7, none, false, .call false (.c (.fn i_slices_IndexFunc_uint8 [] [])) [(.t 5), (.t 6)]⟩,
  ⟨some 8, none, false, .bin .geq (.t 7) (.c (.int .i64 0))⟩,
  ⟨some 4, none, false, .mv (.t 8)⟩]

def a_slices_ContainsFunc_uint8 : Ann := ⟨[(1, [4]), (0, [0, 1])], [], [], [], [], [], [], [], []⟩
def f_slices_ContainsFunc_uint8 : Abs.Fn := ⟨2, [.t 4],
  (.seq (.reg [0, 1] f_slices_ContainsFunc_uint8_r0) (.seq (.reg [4] f_slices_ContainsFunc_uint8_r1) .ret))⟩

theorem e_slices_ContainsFunc_uint8_r0 : type_of% f_slices_ContainsFunc_uint8_r0.eq_1 := by_rfl f_slices_ContainsFunc_uint8_r0.eq_1
theorem e_slices_ContainsFunc_uint8_r1 : type_of% f_slices_ContainsFunc_uint8_r1.eq_1 := by_rfl f_slices_ContainsFunc_uint8_r1.eq_1
theorem e_slices_ContainsFunc_uint8 : type_of% f_slices_ContainsFunc_uint8.eq_1 := by_rfl f_slices_ContainsFunc_uint8.eq_1
theorem ok_slices_ContainsFunc_uint8 : fnC Tryz.prog a_slices_ContainsFunc_uint8 Tryz.f88 = some f_slices_ContainsFunc_uint8 := by kernel_rfl

/-! 89 fumarole/tremor.all[uint8]$1 -/
def f_tremor_all_uint8_1_r0 : List Abs.Op := [
  ⟨some 3, none, false, .mv (.c (.bool false))⟩]

def f_tremor_all_uint8_1_r1 : List Abs.Op := [
  ⟨some 4, none, false, .ld false 1 (.t 1)⟩,
  ⟨some 5, none, false, .mv (.t 0)⟩,
  ⟨some 6, none, false, .call false (.t 4) [(.t 5)]⟩,
  ⟨some 7, none, false, .un .not (.t 6)⟩,
  ⟨some 3, none, false, .mv (.t 7)⟩]

def a_tremor_all_uint8_1 : Ann := ⟨[(1, [3]), (0, [0, 1])], [], [], [], [], [], [], [], []⟩
def f_tremor_all_uint8_1 : Abs.Fn := ⟨2, [.t 3],
  (.seq (.reg [0, 1] f_tremor_all_uint8_1_r0) (.seq (.reg [3] f_tremor_all_uint8_1_r1) .ret))⟩

theorem e_tremor_all_uint8_1_r0 : type_of% f_tremor_all_uint8_1_r0.eq_1 := by_rfl f_tremor_all_uint8_1_r0.eq_1
theorem e_tremor_all_uint8_1_r1 : type_of% f_tremor_all_uint8_1_r1.eq_1 := by_rfl f_tremor_all_uint8_1_r1.eq_1
theorem e_tremor_all_uint8_1 : type_of% f_tremor_all_uint8_1.eq_1 := by_rfl f_tremor_all_uint8_1.eq_1
theorem ok_tremor_all_uint8_1 : fnC Tryz.prog a_tremor_all_uint8_1 Tryz.f89 = some f_tremor_all_uint8_1 := by kernel_rfl

/-! 90 slices.IndexFunc[[]fumarole/tremor.Rule,fumarole/tremor.Rule] -/
def f_slices_IndexFunc_tremor_Rule_r0 : List Abs.Op := [
  ⟨some 4, none, false, .mv (.c (.int .i64 0))⟩]

def f_slices_IndexFunc_tremor_Rule_r1 : List Abs.Op := [
  ⟨some 6, none, false, .mv (.t 0)⟩,
  ⟨some 7, none, false, .lenS (.t 6)⟩,
  ⟨some 8, none, false, .mv (.c (.int .i64 0))⟩]

def f_slices_IndexFunc_tremor_Rule_r2 : List Abs.Op := [
  ⟨some 9, none, false, .bin .lss (.t 8) (.t 7)⟩]

def f_slices_IndexFunc_tremor_Rule_r3 : List Abs.Op := [
  ⟨some 10, none, false, .mv (.t 8)⟩,
  ⟨some 5, none, false, .mv (.t 10)⟩]

def f_slices_IndexFunc_tremor_Rule_r4 : List Abs.Op := [
  ⟨some 11, none, false, .mv (.t 1)⟩,
  ⟨some 12, none, false, .mv (.t 0)⟩,
  ⟨some 13, none, false, .mv (.t 5)⟩,
  ⟨some 14, none, false, .idxS 10 (.t 12) (.t 13)⟩,
  ⟨some 15, none, false, .ld true 10 (.t 14)⟩,
  ⟨some 16, none, false, .call false (.t 11) [(.t 15)]⟩]

def f_slices_IndexFunc_tremor_Rule_r5 : List Abs.Op := [
  ⟨some 17, none, false, .mv (.t 5)⟩,
  ⟨some 4, none, false, .mv (.t 17)⟩]

def f_slices_IndexFunc_tremor_Rule_r6 : List Abs.Op := [
  ⟨some 18, none, false, .bin .add (.t 8) (.c (.int .i64 1))⟩,
  ⟨some 8, none, false, .mv (.t 18)⟩]

def f_slices_IndexFunc_tremor_Rule_l7 : Abs.Cmd :=
  (.seq (.reg [0, 1, 7, 8, 9] f_slices_IndexFunc_tremor_Rule_r2) (.seq (.ite (.t 9) .nop (.exit 0)) (.seq (.blk 1 (.seq (.reg [0, 1, 5, 7, 8] f_slices_IndexFunc_tremor_Rule_r3) (.seq (.reg [0, 1, 5, 7, 8, 16] f_slices_IndexFunc_tremor_Rule_r4) (.ite (.t 16) (.seq (.reg [4] f_slices_IndexFunc_tremor_Rule_r5) .ret) .nop)))) (.reg [0, 1, 7, 8] f_slices_IndexFunc_tremor_Rule_r6))))

def f_slices_IndexFunc_tremor_Rule_r8 : List Abs.Op := [
  ⟨some 4, none, false, .mv (.c (.int .i64 (-1)))⟩]

def a_slices_IndexFunc_tremor_Rule : Ann := ⟨[(7, [4]), (6, [0, 1, 7, 8]), (5, [4]), (4, [0, 1, 5, 7, 8, 16]), (3, [0, 1, 5, 7, 8]), (2, [0, 1, 7, 8, 9]), (1, [0, 1, 7, 8]), (0, [0, 1])], [(0, [0, 1, 7, 8])], [], [], [], [], [], [], []⟩
def f_slices_IndexFunc_tremor_Rule : Abs.Fn := ⟨2, [.t 4],
  (.seq (.reg [0, 1] f_slices_IndexFunc_tremor_Rule_r0) (.seq (.seq (.reg [0, 1, 7, 8] f_slices_IndexFunc_tremor_Rule_r1) (.blk 0 (.loop [0, 1, 7, 8] false f_slices_IndexFunc_tremor_Rule_l7))) (.seq (.reg [4] f_slices_IndexFunc_tremor_Rule_r8) .ret)))⟩

theorem e_slices_IndexFunc_tremor_Rule_r0 : type_of% f_slices_IndexFunc_tremor_Rule_r0.eq_1 := by_rfl f_slices_IndexFunc_tremor_Rule_r0.eq_1
theorem e_slices_IndexFunc_tremor_Rule_r1 : type_of% f_slices_IndexFunc_tremor_Rule_r1.eq_1 := by_rfl f_slices_IndexFunc_tremor_Rule_r1.eq_1
theorem e_slices_IndexFunc_tremor_Rule_r2 : type_of% f_slices_IndexFunc_tremor_Rule_r2.eq_1 := by_rfl f_slices_IndexFunc_tremor_Rule_r2.eq_1
theorem e_slices_IndexFunc_tremor_Rule_r3 : type_of% f_slices_IndexFunc_tremor_Rule_r3.eq_1 := by_rfl f_slices_IndexFunc_tremor_Rule_r3.eq_1
theorem e_slices_IndexFunc_tremor_Rule_r4 : type_of% f_slices_IndexFunc_tremor_Rule_r4.eq_1 := by_rfl f_slices_IndexFunc_tremor_Rule_r4.eq_1
theorem e_slices_IndexFunc_tremor_Rule_r5 : type_of% f_slices_IndexFunc_tremor_Rule_r5.eq_1 := by_rfl f_slices_IndexFunc_tremor_Rule_r5.eq_1
theorem e_slices_IndexFunc_tremor_Rule_r6 : type_of% f_slices_IndexFunc_tremor_Rule_r6.eq_1 := by_rfl f_slices_IndexFunc_tremor_Rule_r6.eq_1
theorem e_slices_IndexFunc_tremor_Rule_l7 : type_of% f_slices_IndexFunc_tremor_Rule_l7.eq_1 := by_rfl f_slices_IndexFunc_tremor_Rule_l7.eq_1
theorem e_slices_IndexFunc_tremor_Rule_r8 : type_of% f_slices_IndexFunc_tremor_Rule_r8.eq_1 := by_rfl f_slices_IndexFunc_tremor_Rule_r8.eq_1
theorem e_slices_IndexFunc_tremor_Rule : type_of% f_slices_IndexFunc_tremor_Rule.eq_1 := by_rfl f_slices_IndexFunc_tremor_Rule.eq_1
theorem ok_slices_IndexFunc_tremor_Rule : fnC Tryz.prog a_slices_IndexFunc_tremor_Rule Tryz.f90 = some f_slices_IndexFunc_tremor_Rule := by kernel_rfl

/-! 91 slices.IndexFunc[[]fumarole/tremor.Event,fumarole/tremor.Event] -/
def f_slices_IndexFunc_tremor_Event_r0 : List Abs.Op := [
  ⟨some 4, none, false, .mv (.c (.int .i64 0))⟩]

def f_slices_IndexFunc_tremor_Event_r1 : List Abs.Op := [
  ⟨some 6, none, false, .mv (.t 0)⟩,
  ⟨some 7, none, false, .lenS (.t 6)⟩,
  ⟨some 8, none, false, .mv (.c (.int .i64 0))⟩]

def f_slices_IndexFunc_tremor_Event_r2 : List Abs.Op := [
  ⟨some 9, none, false, .bin .lss (.t 8) (.t 7)⟩]

def f_slices_IndexFunc_tremor_Event_r3 : List Abs.Op := [
  ⟨some 10, none, false, .mv (.t 8)⟩,
  ⟨some 5, none, false, .mv (.t 10)⟩]

def f_slices_IndexFunc_tremor_Event_r4 : List Abs.Op := [
  ⟨some 11, none, false, .mv (.t 1)⟩,
  ⟨some 12, none, false, .mv (.t 0)⟩,
  ⟨some 13, none, false, .mv (.t 5)⟩,
  ⟨some 14, none, false, .idxS 2 (.t 12) (.t 13)⟩,
  ⟨some 15, none, false, .ld true 2 (.t 14)⟩,
  ⟨some 16, none, false, .call false (.t 11) [(.t 15)]⟩]

def f_slices_IndexFunc_tremor_Event_r5 : List Abs.Op := [
  ⟨some 17, none, false, .mv (.t 5)⟩,
  ⟨some 4, none, false, .mv (.t 17)⟩]

def f_slices_IndexFunc_tremor_Event_r6 : List Abs.Op := [
  ⟨some 18, none, false, .bin .add (.t 8) (.c (.int .i64 1))⟩,
  ⟨some 8, none, false, .mv (.t 18)⟩]

def f_slices_IndexFunc_tremor_Event_l7 : Abs.Cmd :=
  (.seq (.reg [0, 1, 7, 8, 9] f_slices_IndexFunc_tremor_Event_r2) (.seq (.ite (.t 9) .nop (.exit 0)) (.seq (.blk 1 (.seq (.reg [0, 1, 5, 7, 8] f_slices_IndexFunc_tremor_Event_r3) (.seq (.reg [0, 1, 5, 7, 8, 16] f_slices_IndexFunc_tremor_Event_r4) (.ite (.t 16) (.seq (.reg [4] f_slices_IndexFunc_tremor_Event_r5) .ret) .nop)))) (.reg [0, 1, 7, 8] f_slices_IndexFunc_tremor_Event_r6))))

def f_slices_IndexFunc_tremor_Event_r8 : List Abs.Op := [
  ⟨some 4, none, false, .mv (.c (.int .i64 (-1)))⟩]

def a_slices_IndexFunc_tremor_Event : Ann := ⟨[(7, [4]), (6, [0, 1, 7, 8]), (5, [4]), (4, [0, 1, 5, 7, 8, 16]), (3, [0, 1, 5, 7, 8]), (2, [0, 1, 7, 8, 9]), (1, [0, 1, 7, 8]), (0, [0, 1])], [(0, [0, 1, 7, 8])], [], [], [], [], [], [], []⟩
def f_slices_IndexFunc_tremor_Event : Abs.Fn := ⟨2, [.t 4],
  (.seq (.reg [0, 1] f_slices_IndexFunc_tremor_Event_r0) (.seq (.seq (.reg [0, 1, 7, 8] f_slices_IndexFunc_tremor_Event_r1) (.blk 0 (.loop [0, 1, 7, 8] false f_slices_IndexFunc_tremor_Event_l7))) (.seq (.reg [4] f_slices_IndexFunc_tremor_Event_r8) .ret)))⟩

theorem e_slices_IndexFunc_tremor_Event_r0 : type_of% f_slices_IndexFunc_tremor_Event_r0.eq_1 := by_rfl f_slices_IndexFunc_tremor_Event_r0.eq_1
theorem e_slices_IndexFunc_tremor_Event_r1 : type_of% f_slices_IndexFunc_tremor_Event_r1.eq_1 := by_rfl f_slices_IndexFunc_tremor_Event_r1.eq_1
theorem e_slices_IndexFunc_tremor_Event_r2 : type_of% f_slices_IndexFunc_tremor_Event_r2.eq_1 := by_rfl f_slices_IndexFunc_tremor_Event_r2.eq_1
theorem e_slices_IndexFunc_tremor_Event_r3 : type_of% f_slices_IndexFunc_tremor_Event_r3.eq_1 := by_rfl f_slices_IndexFunc_tremor_Event_r3.eq_1
theorem e_slices_IndexFunc_tremor_Event_r4 : type_of% f_slices_IndexFunc_tremor_Event_r4.eq_1 := by_rfl f_slices_IndexFunc_tremor_Event_r4.eq_1
theorem e_slices_IndexFunc_tremor_Event_r5 : type_of% f_slices_IndexFunc_tremor_Event_r5.eq_1 := by_rfl f_slices_IndexFunc_tremor_Event_r5.eq_1
theorem e_slices_IndexFunc_tremor_Event_r6 : type_of% f_slices_IndexFunc_tremor_Event_r6.eq_1 := by_rfl f_slices_IndexFunc_tremor_Event_r6.eq_1
theorem e_slices_IndexFunc_tremor_Event_l7 : type_of% f_slices_IndexFunc_tremor_Event_l7.eq_1 := by_rfl f_slices_IndexFunc_tremor_Event_l7.eq_1
theorem e_slices_IndexFunc_tremor_Event_r8 : type_of% f_slices_IndexFunc_tremor_Event_r8.eq_1 := by_rfl f_slices_IndexFunc_tremor_Event_r8.eq_1
theorem e_slices_IndexFunc_tremor_Event : type_of% f_slices_IndexFunc_tremor_Event.eq_1 := by_rfl f_slices_IndexFunc_tremor_Event.eq_1
theorem ok_slices_IndexFunc_tremor_Event : fnC Tryz.prog a_slices_IndexFunc_tremor_Event Tryz.f91 = some f_slices_IndexFunc_tremor_Event := by kernel_rfl

/-! 92 slices.ContainsFunc[[]fumarole/tremor.Station,fumarole/tremor.Station] -/
def f_slices_ContainsFunc_tremor_Station_r0 : List Abs.Op := [
  ⟨some 4, none, false, .mv (.c (.bool false))⟩]

def f_slices_ContainsFunc_tremor_Station_r1 : List Abs.Op := [
  ⟨some 5, none, false, .mv (.t 0)⟩,
  ⟨some 6, none, false, .mv (.t 1)⟩,
  ⟨some 7, none, false, .call false (.c (.fn i_slices_IndexFunc_tremor_Station [] [])) [(.t 5), (.t 6)]⟩,
  ⟨some 8, none, false, .bin .geq (.t 7) (.c (.int .i64 0))⟩,
  ⟨some 4, none, false, .mv (.t 8)⟩]

def a_slices_ContainsFunc_tremor_Station : Ann := ⟨[(1, [4]), (0, [0, 1])], [], [], [], [], [], [], [], []⟩
def f_slices_ContainsFunc_tremor_Station : Abs.Fn := ⟨2, [.t 4],
  (.seq (.reg [0, 1] f_slices_ContainsFunc_tremor_Station_r0) (.seq (.reg [4] f_slices_ContainsFunc_tremor_Station_r1) .ret))⟩

theorem e_slices_ContainsFunc_tremor_Station_r0 : type_of% f_slices_ContainsFunc_tremor_Station_r0.eq_1 := by_rfl f_slices_ContainsFunc_tremor_Station_r0.eq_1
theorem e_slices_ContainsFunc_tremor_Station_r1 : type_of% f_slices_ContainsFunc_tremor_Station_r1.eq_1 := by_rfl f_slices_ContainsFunc_tremor_Station_r1.eq_1
theorem e_slices_ContainsFunc_tremor_Station : type_of% f_slices_ContainsFunc_tremor_Station.eq_1 := by_rfl f_slices_ContainsFunc_tremor_Station.eq_1
theorem ok_slices_ContainsFunc_tremor_Station : fnC Tryz.prog a_slices_ContainsFunc_tremor_Station Tryz.f92 = some f_slices_ContainsFunc_tremor_Station := by kernel_rfl

/-! 93 fumarole/tremor.all[fumarole/tremor.Station]$1 -/
def f_tremor_all_tremor_Station_1_r0 : List Abs.Op := [
  ⟨some 2, none, false, .boxi (.t 0)⟩,
  ⟨some 3, none, false, .mv (.c (.bool false))⟩]

def f_tremor_all_tremor_Station_1_r1 : List Abs.Op := [
  ⟨some 4, none, false, .ld false 1 (.t 1)⟩,
  ⟨some 5, none, false, .ld true 4 (.t 2)⟩,
  ⟨some 6, none, false, .call false (.t 4) [(.t 5)]⟩,
  ⟨some 7, none, false, .un .not (.t 6)⟩,
  ⟨some 3, none, false, .mv (.t 7)⟩]

def a_tremor_all_tremor_Station_1 : Ann := ⟨[(1, [3]), (0, [1, 2])], [], [], [], [], [], [], [], []⟩
def f_tremor_all_tremor_Station_1 : Abs.Fn := ⟨2, [.t 3],
  (.seq (.reg [1, 2] f_tremor_all_tremor_Station_1_r0) (.seq (.reg [3] f_tremor_all_tremor_Station_1_r1) .ret))⟩

theorem e_tremor_all_tremor_Station_1_r0 : type_of% f_tremor_all_tremor_Station_1_r0.eq_1 := by_rfl f_tremor_all_tremor_Station_1_r0.eq_1
theorem e_tremor_all_tremor_Station_1_r1 : type_of% f_tremor_all_tremor_Station_1_r1.eq_1 := by_rfl f_tremor_all_tremor_Station_1_r1.eq_1
theorem e_tremor_all_tremor_Station_1 : type_of% f_tremor_all_tremor_Station_1.eq_1 := by_rfl f_tremor_all_tremor_Station_1.eq_1
theorem ok_tremor_all_tremor_Station_1 : fnC Tryz.prog a_tremor_all_tremor_Station_1 Tryz.f93 = some f_tremor_all_tremor_Station_1 := by kernel_rfl

/-! 94 slices.ContainsFunc[[]fumarole/tremor.Range,fumarole/tremor.Range] -/
def f_slices_ContainsFunc_tremor_Range_r0 : List Abs.Op := [
  ⟨some 4, none, false, .mv (.c (.bool false))⟩]

def f_slices_ContainsFunc_tremor_Range_r1 : List Abs.Op := [
  ⟨some 5, none, false, .mv (.t 0)⟩,
  ⟨some 6, none, false, .mv (.t 1)⟩,
  ⟨some 7, none, false, .call false (.c (.fn i_slices_IndexFunc_tremor_Range [] [])) [(.t 5), (.t 6)]⟩,
  ⟨some 8, none, false, .bin .geq (.t 7) (.c (.int .i64 0))⟩,
  ⟨some 4, none, false, .mv (.t 8)⟩]

def a_slices_ContainsFunc_tremor_Range : Ann := ⟨[(1, [4]), (0, [0, 1])], [], [], [], [], [], [], [], []⟩
def f_slices_ContainsFunc_tremor_Range : Abs.Fn := ⟨2, [.t 4],
  (.seq (.reg [0, 1] f_slices_ContainsFunc_tremor_Range_r0) (.seq (.reg [4] f_slices_ContainsFunc_tremor_Range_r1) .ret))⟩

theorem e_slices_ContainsFunc_tremor_Range_r0 : type_of% f_slices_ContainsFunc_tremor_Range_r0.eq_1 := by_rfl f_slices_ContainsFunc_tremor_Range_r0.eq_1
theorem e_slices_ContainsFunc_tremor_Range_r1 : type_of% f_slices_ContainsFunc_tremor_Range_r1.eq_1 := by_rfl f_slices_ContainsFunc_tremor_Range_r1.eq_1
theorem e_slices_ContainsFunc_tremor_Range : type_of% f_slices_ContainsFunc_tremor_Range.eq_1 := by_rfl f_slices_ContainsFunc_tremor_Range.eq_1
theorem ok_slices_ContainsFunc_tremor_Range : fnC Tryz.prog a_slices_ContainsFunc_tremor_Range Tryz.f94 = some f_slices_ContainsFunc_tremor_Range := by kernel_rfl

/-! 95 fumarole/tremor.all[fumarole/tremor.Range]$1 -/
def f_tremor_all_tremor_Range_1_r0 : List Abs.Op := [
  ⟨some 2, none, false, .boxi (.t 0)⟩,
  ⟨some 3, none, false, .mv (.c (.bool false))⟩]

def f_tremor_all_tremor_Range_1_r1 : List Abs.Op := [
  ⟨some 4, none, false, .ld false 1 (.t 1)⟩,
  ⟨some 5, none, false, .ld true 2 (.t 2)⟩,
  ⟨some 6, none, false, .call false (.t 4) [(.t 5)]⟩,
  ⟨some 7, none, false, .un .not (.t 6)⟩,
  ⟨some 3, none, false, .mv (.t 7)⟩]

def a_tremor_all_tremor_Range_1 : Ann := ⟨[(1, [3]), (0, [1, 2])], [], [], [], [], [], [], [], []⟩
def f_tremor_all_tremor_Range_1 : Abs.Fn := ⟨2, [.t 3],
  (.seq (.reg [1, 2] f_tremor_all_tremor_Range_1_r0) (.seq (.reg [3] f_tremor_all_tremor_Range_1_r1) .ret))⟩

theorem e_tremor_all_tremor_Range_1_r0 : type_of% f_tremor_all_tremor_Range_1_r0.eq_1 := by_rfl f_tremor_all_tremor_Range_1_r0.eq_1
theorem e_tremor_all_tremor_Range_1_r1 : type_of% f_tremor_all_tremor_Range_1_r1.eq_1 := by_rfl f_tremor_all_tremor_Range_1_r1.eq_1
theorem e_tremor_all_tremor_Range_1 : type_of% f_tremor_all_tremor_Range_1.eq_1 := by_rfl f_tremor_all_tremor_Range_1.eq_1
theorem ok_tremor_all_tremor_Range_1 : fnC Tryz.prog a_tremor_all_tremor_Range_1 Tryz.f95 = some f_tremor_all_tremor_Range_1 := by kernel_rfl

/-! 96 slices.ContainsFunc[[]fumarole/tremor.Pick,fumarole/tremor.Pick] -/
def f_slices_ContainsFunc_tremor_Pick_r0 : List Abs.Op := [
  ⟨some 4, none, false, .mv (.c (.bool false))⟩]

def f_slices_ContainsFunc_tremor_Pick_r1 : List Abs.Op := [
  ⟨some 5, none, false, .mv (.t 0)⟩,
  ⟨some 6, none, false, .mv (.t 1)⟩,
  ⟨some 7, none, false, .call false (.c (.fn i_slices_IndexFunc_tremor_Pick [] [])) [(.t 5), (.t 6)]⟩,
  ⟨some 8, none, false, .bin .geq (.t 7) (.c (.int .i64 0))⟩,
  ⟨some 4, none, false, .mv (.t 8)⟩]

def a_slices_ContainsFunc_tremor_Pick : Ann := ⟨[(1, [4]), (0, [0, 1])], [], [], [], [], [], [], [], []⟩
def f_slices_ContainsFunc_tremor_Pick : Abs.Fn := ⟨2, [.t 4],
  (.seq (.reg [0, 1] f_slices_ContainsFunc_tremor_Pick_r0) (.seq (.reg [4] f_slices_ContainsFunc_tremor_Pick_r1) .ret))⟩

theorem e_slices_ContainsFunc_tremor_Pick_r0 : type_of% f_slices_ContainsFunc_tremor_Pick_r0.eq_1 := by_rfl f_slices_ContainsFunc_tremor_Pick_r0.eq_1
theorem e_slices_ContainsFunc_tremor_Pick_r1 : type_of% f_slices_ContainsFunc_tremor_Pick_r1.eq_1 := by_rfl f_slices_ContainsFunc_tremor_Pick_r1.eq_1
theorem e_slices_ContainsFunc_tremor_Pick : type_of% f_slices_ContainsFunc_tremor_Pick.eq_1 := by_rfl f_slices_ContainsFunc_tremor_Pick.eq_1
theorem ok_slices_ContainsFunc_tremor_Pick : fnC Tryz.prog a_slices_ContainsFunc_tremor_Pick Tryz.f96 = some f_slices_ContainsFunc_tremor_Pick := by kernel_rfl

/-! 97 fumarole/tremor.all[fumarole/tremor.Pick]$1 -/
def f_tremor_all_tremor_Pick_1_r0 : List Abs.Op := [
  ⟨some 2, none, false, .boxi (.t 0)⟩,
  ⟨some 3, none, false, .mv (.c (.bool false))⟩]

def f_tremor_all_tremor_Pick_1_r1 : List Abs.Op := [
  ⟨some 4, none, false, .ld false 1 (.t 1)⟩,
  ⟨some 5, none, false, .ld true 4 (.t 2)⟩,
  ⟨some 6, none, false, .call false (.t 4) [(.t 5)]⟩,
  ⟨some 7, none, false, .un .not (.t 6)⟩,
  ⟨some 3, none, false, .mv (.t 7)⟩]

def a_tremor_all_tremor_Pick_1 : Ann := ⟨[(1, [3]), (0, [1, 2])], [], [], [], [], [], [], [], []⟩
def f_tremor_all_tremor_Pick_1 : Abs.Fn := ⟨2, [.t 3],
  (.seq (.reg [1, 2] f_tremor_all_tremor_Pick_1_r0) (.seq (.reg [3] f_tremor_all_tremor_Pick_1_r1) .ret))⟩

theorem e_tremor_all_tremor_Pick_1_r0 : type_of% f_tremor_all_tremor_Pick_1_r0.eq_1 := by_rfl f_tremor_all_tremor_Pick_1_r0.eq_1
theorem e_tremor_all_tremor_Pick_1_r1 : type_of% f_tremor_all_tremor_Pick_1_r1.eq_1 := by_rfl f_tremor_all_tremor_Pick_1_r1.eq_1
theorem e_tremor_all_tremor_Pick_1 : type_of% f_tremor_all_tremor_Pick_1.eq_1 := by_rfl f_tremor_all_tremor_Pick_1.eq_1
theorem ok_tremor_all_tremor_Pick_1 : fnC Tryz.prog a_tremor_all_tremor_Pick_1 Tryz.f97 = some f_tremor_all_tremor_Pick_1 := by kernel_rfl

/-! 98 (fumarole/tremor.Net).lattice$1 -/
def f_tremor_Net_lattice_1_r0 : List Abs.Op := [
  ⟨some 6, none, false, .fadr 5 (.t 1)⟩,
  ⟨some 7, none, false, .fadr 0 (.t 6)⟩,
  ⟨some 8, none, false, .ld false 1 (.t 7)⟩,
  ⟨some 3, none, false, .mv (.t 8)⟩]

def f_tremor_Net_lattice_1_r1 : List Abs.Op := [
  ⟨some 9, none, false, .mv (.t 3)⟩,
  ⟨some 10, none, false, .fadr 8 (.t 1)⟩,
  ⟨some 11, none, false, .fadr 0 (.t 10)⟩,
  ⟨some 12, none, false, .ld false 1 (.t 11)⟩,
  ⟨some 13, none, false, .bin .leq (.t 9) (.t 12)⟩]

def f_tremor_Net_lattice_1_r2 : List Abs.Op := [
  ⟨some 18, none, false, .fadr 5 (.t 1)⟩,
  ⟨some 19, none, false, .fadr 1 (.t 18)⟩,
  ⟨some 20, none, false, .ld false 1 (.t 19)⟩,
  ⟨some 4, none, false, .mv (.t 20)⟩]

def f_tremor_Net_lattice_1_r3 : List Abs.Op := [
  ⟨some 21, none, false, .mv (.t 4)⟩,
  ⟨some 22, none, false, .fadr 8 (.t 1)⟩,
  ⟨some 23, none, false, .fadr 1 (.t 22)⟩,
  ⟨some 24, none, false, .ld false 1 (.t 23)⟩,
  ⟨some 25, none, false, .bin .leq (.t 21) (.t 24)⟩]

def f_tremor_Net_lattice_1_r4 : List Abs.Op := [
  ⟨some 30, none, false, .fadr 5 (.t 1)⟩,
  ⟨some 31, none, false, .fadr 2 (.t 30)⟩,
  ⟨some 32, none, false, .ld false 1 (.t 31)⟩,
  ⟨some 5, none, false, .mv (.t 32)⟩]

def f_tremor_Net_lattice_1_r5 : List Abs.Op := [
  ⟨some 33, none, false, .mv (.t 5)⟩,
  ⟨some 34, none, false, .fadr 8 (.t 1)⟩,
  ⟨some 35, none, false, .fadr 2 (.t 34)⟩,
  ⟨some 36, none, false, .ld false 1 (.t 35)⟩,
  ⟨some 37, none, false, .bin .leq (.t 33) (.t 36)⟩]

def f_tremor_Net_lattice_1_r6 : List Abs.Op := [
  ⟨some 42, none, false, .mv (.t 0)⟩,
  ⟨some 43, none, false, .mv (.t 3)⟩,
  ⟨some 44, none, false, .mv (.t 4)⟩,
  ⟨some 45, none, false, .mv (.t 5)⟩,
  ⟨some 46, none, false, .bld [(.int .i64 0), (.int .i64 0), (.int .i64 0)] [(0, 1, (.t 43)), (1, 1, (.t 44)), (2, 1, (.t 45))]⟩,
  ⟨some 47, none, false, .call false (.t 42) [(.t 46)]⟩,
  ⟨some 48, none, false, .un .not (.t 47)⟩]

def f_tremor_Net_lattice_1_r7 : List Abs.Op := [
  ⟨some 38, none, false, .mv (.t 5)⟩,
  ⟨some 39, none, false, .fadr 11 (.t 1)⟩,
  ⟨some 40, none, false, .ld false 1 (.t 39)⟩,
  ⟨some 41, none, false, .bin .add (.t 38) (.t 40)⟩,
  ⟨some 5, none, false, .mv (.t 41)⟩]

def f_tremor_Net_lattice_1_l8 : Abs.Cmd :=
  (.seq (.seq (.reg [0, 1, 3, 4, 5, 37] f_tremor_Net_lattice_1_r5) (.ite (.t 37) .nop (.exit 4))) (.seq (.blk 5 (.seq (.reg [0, 1, 3, 4, 5, 48] f_tremor_Net_lattice_1_r6) (.ite (.t 48) .ret .nop))) (.reg [0, 1, 3, 4, 5] f_tremor_Net_lattice_1_r7)))

def f_tremor_Net_lattice_1_r9 : List Abs.Op := [
  ⟨some 26, none, false, .mv (.t 4)⟩,
  ⟨some 27, none, false, .fadr 11 (.t 1)⟩,
  ⟨some 28, none, false, .ld false 1 (.t 27)⟩,
  ⟨some 29, none, false, .bin .add (.t 26) (.t 28)⟩,
  ⟨some 4, none, false, .mv (.t 29)⟩]

def f_tremor_Net_lattice_1_l10 : Abs.Cmd :=
  (.seq (.seq (.reg [0, 1, 3, 4, 25] f_tremor_Net_lattice_1_r3) (.ite (.t 25) .nop (.exit 2))) (.seq (.blk 3 (.seq (.reg [0, 1, 3, 4, 5] f_tremor_Net_lattice_1_r4) (.blk 4 (.loop [0, 1, 3, 4, 5] false f_tremor_Net_lattice_1_l8)))) (.reg [0, 1, 3, 4] f_tremor_Net_lattice_1_r9)))

def f_tremor_Net_lattice_1_r11 : List Abs.Op := [
  ⟨some 14, none, false, .mv (.t 3)⟩,
  ⟨some 15, none, false, .fadr 11 (.t 1)⟩,
  ⟨some 16, none, false, .ld false 1 (.t 15)⟩,
  ⟨some 17, none, false, .bin .add (.t 14) (.t 16)⟩,
  ⟨some 3, none, false, .mv (.t 17)⟩]

def f_tremor_Net_lattice_1_l12 : Abs.Cmd :=
  (.seq (.seq (.reg [0, 1, 3, 13] f_tremor_Net_lattice_1_r1) (.ite (.t 13) .nop (.exit 0))) (.seq (.blk 1 (.seq (.reg [0, 1, 3, 4] f_tremor_Net_lattice_1_r2) (.blk 2 (.loop [0, 1, 3, 4] false f_tremor_Net_lattice_1_l10)))) (.reg [0, 1, 3] f_tremor_Net_lattice_1_r11)))

def a_tremor_Net_lattice_1 : Ann := ⟨[(2, [0, 1, 3]), (5, [0, 1, 3, 4]), (8, [0, 1, 3, 4, 5]), (9, [0, 1, 3, 4, 5, 48]), (7, [0, 1, 3, 4, 5, 37]), (6, [0, 1, 3, 4, 5]), (4, [0, 1, 3, 4, 25]), (3, [0, 1, 3, 4]), (1, [0, 1, 3, 13]), (0, [0, 1, 3])], [(4, [0, 1, 3, 4, 5]), (2, [0, 1, 3, 4]), (0, [0, 1, 3])], [], [], [], [], [], [], []⟩
def f_tremor_Net_lattice_1 : Abs.Fn := ⟨2, [],
  (.seq (.reg [0, 1, 3] f_tremor_Net_lattice_1_r0) (.blk 0 (.loop [0, 1, 3] false f_tremor_Net_lattice_1_l12)))⟩

theorem e_tremor_Net_lattice_1_r0 : type_of% f_tremor_Net_lattice_1_r0.eq_1 := by_rfl f_tremor_Net_lattice_1_r0.eq_1
theorem e_tremor_Net_lattice_1_r1 : type_of% f_tremor_Net_lattice_1_r1.eq_1 := by_rfl f_tremor_Net_lattice_1_r1.eq_1
theorem e_tremor_Net_lattice_1_r2 : type_of% f_tremor_Net_lattice_1_r2.eq_1 := by_rfl f_tremor_Net_lattice_1_r2.eq_1
theorem e_tremor_Net_lattice_1_r3 : type_of% f_tremor_Net_lattice_1_r3.eq_1 := by_rfl f_tremor_Net_lattice_1_r3.eq_1
theorem e_tremor_Net_lattice_1_r4 : type_of% f_tremor_Net_lattice_1_r4.eq_1 := by_rfl f_tremor_Net_lattice_1_r4.eq_1
theorem e_tremor_Net_lattice_1_r5 : type_of% f_tremor_Net_lattice_1_r5.eq_1 := by_rfl f_tremor_Net_lattice_1_r5.eq_1
theorem e_tremor_Net_lattice_1_r6 : type_of% f_tremor_Net_lattice_1_r6.eq_1 := by_rfl f_tremor_Net_lattice_1_r6.eq_1
theorem e_tremor_Net_lattice_1_r7 : type_of% f_tremor_Net_lattice_1_r7.eq_1 := by_rfl f_tremor_Net_lattice_1_r7.eq_1
theorem e_tremor_Net_lattice_1_l8 : type_of% f_tremor_Net_lattice_1_l8.eq_1 := by_rfl f_tremor_Net_lattice_1_l8.eq_1
theorem e_tremor_Net_lattice_1_r9 : type_of% f_tremor_Net_lattice_1_r9.eq_1 := by_rfl f_tremor_Net_lattice_1_r9.eq_1
theorem e_tremor_Net_lattice_1_l10 : type_of% f_tremor_Net_lattice_1_l10.eq_1 := by_rfl f_tremor_Net_lattice_1_l10.eq_1
theorem e_tremor_Net_lattice_1_r11 : type_of% f_tremor_Net_lattice_1_r11.eq_1 := by_rfl f_tremor_Net_lattice_1_r11.eq_1
theorem e_tremor_Net_lattice_1_l12 : type_of% f_tremor_Net_lattice_1_l12.eq_1 := by_rfl f_tremor_Net_lattice_1_l12.eq_1
theorem e_tremor_Net_lattice_1 : type_of% f_tremor_Net_lattice_1.eq_1 := by_rfl f_tremor_Net_lattice_1.eq_1
theorem ok_tremor_Net_lattice_1 : fnC Tryz.prog a_tremor_Net_lattice_1 Tryz.f98 = some f_tremor_Net_lattice_1 := by kernel_rfl

/-! 99 (fumarole/tremor.heard).span -/
def f_tremor_heard_span_r0 : List Abs.Op := [
  ⟨some 3, none, false, .boxi (.t 0)⟩,
  ⟨some 4, none, false, .boxi (.t 1)⟩,
  ⟨some 6, none, false, .alcv [] [(.int .i64 0), (.int .i64 0)]⟩]

def f_tremor_heard_span_r1 : List Abs.Op := [
  ⟨some 10, none, false, .fadr 12 (.t 3)⟩,
  ⟨some 11, none, false, .ld false 1 (.t 10)⟩,
  ⟨some 12, none, false, .mv (.t 2)⟩,
  ⟨some 13, none, false, .idxS 4 (.t 11) (.t 12)⟩,
  ⟨some 14, none, false, .ld true 4 (.t 13)⟩,
  ⟨some 7, none, false, .alcv [] [(.int .i64 0), (.int .u8 0), (.int .i64 0), (.int .i64 0)]⟩,
  ⟨none, none, false, .stv 7 [] 4 7 (.t 14)⟩]

def f_tremor_heard_span_r2 : List Abs.Op := [
  ⟨some 15, none, true, .fadr 0 (.t 3)⟩,
  ⟨some 16, none, true, .ld true 12 (.t 15)⟩,
  ⟨some 17, none, true, .fadr 0 (.t 7)⟩,
  ⟨some 18, none, true, .ldv 7 false 1 17⟩,
  ⟨some 19, none, true, .fadr 1 (.t 7)⟩,
  ⟨some 20, none, true, .ldv 7 false 1 19⟩,
  ⟨some 21, none, true, .ld true 3 (.t 4)⟩,
  ⟨some 22, none, true, .call false (.c (.fn i_tremor_Net_travel [] [])) [(.t 16), (.t 18), (.t 20), (.t 21)]⟩,
  ⟨some 23, none, true, .fadr 0 (.t 3)⟩,
  ⟨some 24, none, true, .fadr 0 (.t 23)⟩,
  ⟨some 25, none, true, .ld false 1 (.t 24)⟩,
  ⟨some 26, none, true, .fadr 0 (.t 7)⟩,
  ⟨some 27, none, true, .ldv 7 false 1 26⟩,
  ⟨some 28, none, true, .idxS 4 (.t 25) (.t 27)⟩,
  ⟨some 29, none, true, .fadr 3 (.t 28)⟩,
  ⟨some 30, none, true, .ld false 1 (.t 29)⟩,
  ⟨some 8, none, true, .alcv [] [(.int .i64 0), (.int .i64 0)]⟩,
  ⟨none, none, true, .stv 8 [] 2 8 (.t 22)⟩,
  ⟨some 9, none, false, .mv (.t 30)⟩]

def f_tremor_heard_span_r3 : List Abs.Op := [
  ⟨some 31, none, false, .fadr 2 (.t 7)⟩,
  ⟨some 32, none, false, .fadr 0 (.t 31)⟩,
  ⟨some 33, none, false, .ldv 7 false 1 32⟩,
  ⟨some 34, none, false, .mv (.t 9)⟩,
  ⟨some 35, none, false, .bin .sub (.t 33) (.t 34)⟩,
  ⟨some 36, none, false, .fadr 1 (.t 8)⟩,
  ⟨some 37, none, false, .ldv 8 false 1 36⟩,
  ⟨some 38, none, false, .bin .sub (.t 35) (.t 37)⟩,
  ⟨some 39, none, false, .fadr 2 (.t 7)⟩,
  ⟨some 40, none, false, .fadr 1 (.t 39)⟩,
  ⟨some 41, none, false, .ldv 7 false 1 40⟩,
  ⟨some 42, none, false, .mv (.t 9)⟩,
  ⟨some 43, none, false, .bin .add (.t 41) (.t 42)⟩,
  ⟨some 44, none, false, .fadr 0 (.t 8)⟩,
  ⟨some 45, none, false, .ldv 8 false 1 44⟩,
  ⟨some 46, none, false, .bin .sub (.t 43) (.t 45)⟩,
  ⟨some 47, none, false, .bld [(.int .i64 0), (.int .i64 0)] [(0, 1, (.t 38)), (1, 1, (.t 46))]⟩,
  ⟨none, none, false, .stv 6 [] 2 6 (.t 47)⟩]

def a_tremor_heard_span : Ann := ⟨[(3, [6]), (2, [6, 7, 8, 9]), (1, [3, 4, 6, 7]), (0, [2, 3, 4, 6])], [], [], [6, 7, 8], [6, 7, 8], [], [], [], []⟩
def f_tremor_heard_span : Abs.Fn := ⟨3, [.v 6 true 2],
  (.seq (.reg [2, 3, 4, 6] f_tremor_heard_span_r0) (.seq (.reg [3, 4, 6, 7] f_tremor_heard_span_r1) (.seq (.reg [6, 7, 8, 9] f_tremor_heard_span_r2) (.seq (.reg [6] f_tremor_heard_span_r3) .ret))))⟩

theorem e_tremor_heard_span_r0 : type_of% f_tremor_heard_span_r0.eq_1 := by_rfl f_tremor_heard_span_r0.eq_1
theorem e_tremor_heard_span_r1 : type_of% f_tremor_heard_span_r1.eq_1 := by_rfl f_tremor_heard_span_r1.eq_1
theorem e_tremor_heard_span_r2 : type_of% f_tremor_heard_span_r2.eq_1 := by_rfl f_tremor_heard_span_r2.eq_1
theorem e_tremor_heard_span_r3 : type_of% f_tremor_heard_span_r3.eq_1 := by_rfl f_tremor_heard_span_r3.eq_1
theorem e_tremor_heard_span : type_of% f_tremor_heard_span.eq_1 := by_rfl f_tremor_heard_span.eq_1
theorem ok_tremor_heard_span : fnC Tryz.prog a_tremor_heard_span Tryz.f99 = some f_tremor_heard_span := by kernel_rfl

/-! 100 slices.ContainsFunc[[]fumarole/tremor.Row,fumarole/tremor.Row] -/
def f_slices_ContainsFunc_tremor_Row_r0 : List Abs.Op := [
  ⟨some 4, none, false, .mv (.c (.bool false))⟩]

def f_slices_ContainsFunc_tremor_Row_r1 : List Abs.Op := [
  ⟨some 5, none, false, .mv (.t 0)⟩,
  ⟨some 6, none, false, .mv (.t 1)⟩,
  ⟨some 7, none, false, .call false (.c (.fn i_slices_IndexFunc_tremor_Row [] [])) [(.t 5), (.t 6)]⟩,
  ⟨some 8, none, false, .bin .geq (.t 7) (.c (.int .i64 0))⟩,
  ⟨some 4, none, false, .mv (.t 8)⟩]

def a_slices_ContainsFunc_tremor_Row : Ann := ⟨[(1, [4]), (0, [0, 1])], [], [], [], [], [], [], [], []⟩
def f_slices_ContainsFunc_tremor_Row : Abs.Fn := ⟨2, [.t 4],
  (.seq (.reg [0, 1] f_slices_ContainsFunc_tremor_Row_r0) (.seq (.reg [4] f_slices_ContainsFunc_tremor_Row_r1) .ret))⟩

theorem e_slices_ContainsFunc_tremor_Row_r0 : type_of% f_slices_ContainsFunc_tremor_Row_r0.eq_1 := by_rfl f_slices_ContainsFunc_tremor_Row_r0.eq_1
theorem e_slices_ContainsFunc_tremor_Row_r1 : type_of% f_slices_ContainsFunc_tremor_Row_r1.eq_1 := by_rfl f_slices_ContainsFunc_tremor_Row_r1.eq_1
theorem e_slices_ContainsFunc_tremor_Row : type_of% f_slices_ContainsFunc_tremor_Row.eq_1 := by_rfl f_slices_ContainsFunc_tremor_Row.eq_1
theorem ok_slices_ContainsFunc_tremor_Row : fnC Tryz.prog a_slices_ContainsFunc_tremor_Row Tryz.f100 = some f_slices_ContainsFunc_tremor_Row := by kernel_rfl

/-! 101 fumarole/tremor.all[fumarole/tremor.Row]$1 -/
def f_tremor_all_tremor_Row_1_r0 : List Abs.Op := [
  ⟨some 2, none, false, .boxi (.t 0)⟩,
  ⟨some 3, none, false, .mv (.c (.bool false))⟩]

def f_tremor_all_tremor_Row_1_r1 : List Abs.Op := [
  ⟨some 4, none, false, .ld false 1 (.t 1)⟩,
  ⟨some 5, none, false, .ld true 2 (.t 2)⟩,
  ⟨some 6, none, false, .call false (.t 4) [(.t 5)]⟩,
  ⟨some 7, none, false, .un .not (.t 6)⟩,
  ⟨some 3, none, false, .mv (.t 7)⟩]

def a_tremor_all_tremor_Row_1 : Ann := ⟨[(1, [3]), (0, [1, 2])], [], [], [], [], [], [], [], []⟩
def f_tremor_all_tremor_Row_1 : Abs.Fn := ⟨2, [.t 3],
  (.seq (.reg [1, 2] f_tremor_all_tremor_Row_1_r0) (.seq (.reg [3] f_tremor_all_tremor_Row_1_r1) .ret))⟩

theorem e_tremor_all_tremor_Row_1_r0 : type_of% f_tremor_all_tremor_Row_1_r0.eq_1 := by_rfl f_tremor_all_tremor_Row_1_r0.eq_1
theorem e_tremor_all_tremor_Row_1_r1 : type_of% f_tremor_all_tremor_Row_1_r1.eq_1 := by_rfl f_tremor_all_tremor_Row_1_r1.eq_1
theorem e_tremor_all_tremor_Row_1 : type_of% f_tremor_all_tremor_Row_1.eq_1 := by_rfl f_tremor_all_tremor_Row_1.eq_1
theorem ok_tremor_all_tremor_Row_1 : fnC Tryz.prog a_tremor_all_tremor_Row_1 Tryz.f101 = some f_tremor_all_tremor_Row_1 := by kernel_rfl

/-! 102 slices.IndexFunc[[]fumarole/tremor.Reading,fumarole/tremor.Reading] -/
def f_slices_IndexFunc_tremor_Reading_r0 : List Abs.Op := [
  ⟨some 4, none, false, .mv (.c (.int .i64 0))⟩]

def f_slices_IndexFunc_tremor_Reading_r1 : List Abs.Op := [
  ⟨some 6, none, false, .mv (.t 0)⟩,
  ⟨some 7, none, false, .lenS (.t 6)⟩,
  ⟨some 8, none, false, .mv (.c (.int .i64 0))⟩]

def f_slices_IndexFunc_tremor_Reading_r2 : List Abs.Op := [
  ⟨some 9, none, false, .bin .lss (.t 8) (.t 7)⟩]

def f_slices_IndexFunc_tremor_Reading_r3 : List Abs.Op := [
  ⟨some 10, none, false, .mv (.t 8)⟩,
  ⟨some 5, none, false, .mv (.t 10)⟩]

def f_slices_IndexFunc_tremor_Reading_r4 : List Abs.Op := [
  ⟨some 11, none, false, .mv (.t 1)⟩,
  ⟨some 12, none, false, .mv (.t 0)⟩,
  ⟨some 13, none, false, .mv (.t 5)⟩,
  ⟨some 14, none, false, .idxS 2 (.t 12) (.t 13)⟩,
  ⟨some 15, none, false, .ld true 2 (.t 14)⟩,
  ⟨some 16, none, false, .call false (.t 11) [(.t 15)]⟩]

def f_slices_IndexFunc_tremor_Reading_r5 : List Abs.Op := [
  ⟨some 17, none, false, .mv (.t 5)⟩,
  ⟨some 4, none, false, .mv (.t 17)⟩]

def f_slices_IndexFunc_tremor_Reading_r6 : List Abs.Op := [
  ⟨some 18, none, false, .bin .add (.t 8) (.c (.int .i64 1))⟩,
  ⟨some 8, none, false, .mv (.t 18)⟩]

def f_slices_IndexFunc_tremor_Reading_l7 : Abs.Cmd :=
  (.seq (.reg [0, 1, 7, 8, 9] f_slices_IndexFunc_tremor_Reading_r2) (.seq (.ite (.t 9) .nop (.exit 0)) (.seq (.blk 1 (.seq (.reg [0, 1, 5, 7, 8] f_slices_IndexFunc_tremor_Reading_r3) (.seq (.reg [0, 1, 5, 7, 8, 16] f_slices_IndexFunc_tremor_Reading_r4) (.ite (.t 16) (.seq (.reg [4] f_slices_IndexFunc_tremor_Reading_r5) .ret) .nop)))) (.reg [0, 1, 7, 8] f_slices_IndexFunc_tremor_Reading_r6))))

def f_slices_IndexFunc_tremor_Reading_r8 : List Abs.Op := [
  ⟨some 4, none, false, .mv (.c (.int .i64 (-1)))⟩]

def a_slices_IndexFunc_tremor_Reading : Ann := ⟨[(7, [4]), (6, [0, 1, 7, 8]), (5, [4]), (4, [0, 1, 5, 7, 8, 16]), (3, [0, 1, 5, 7, 8]), (2, [0, 1, 7, 8, 9]), (1, [0, 1, 7, 8]), (0, [0, 1])], [(0, [0, 1, 7, 8])], [], [], [], [], [], [], []⟩
def f_slices_IndexFunc_tremor_Reading : Abs.Fn := ⟨2, [.t 4],
  (.seq (.reg [0, 1] f_slices_IndexFunc_tremor_Reading_r0) (.seq (.seq (.reg [0, 1, 7, 8] f_slices_IndexFunc_tremor_Reading_r1) (.blk 0 (.loop [0, 1, 7, 8] false f_slices_IndexFunc_tremor_Reading_l7))) (.seq (.reg [4] f_slices_IndexFunc_tremor_Reading_r8) .ret)))⟩

theorem e_slices_IndexFunc_tremor_Reading_r0 : type_of% f_slices_IndexFunc_tremor_Reading_r0.eq_1 := by_rfl f_slices_IndexFunc_tremor_Reading_r0.eq_1
theorem e_slices_IndexFunc_tremor_Reading_r1 : type_of% f_slices_IndexFunc_tremor_Reading_r1.eq_1 := by_rfl f_slices_IndexFunc_tremor_Reading_r1.eq_1
theorem e_slices_IndexFunc_tremor_Reading_r2 : type_of% f_slices_IndexFunc_tremor_Reading_r2.eq_1 := by_rfl f_slices_IndexFunc_tremor_Reading_r2.eq_1
theorem e_slices_IndexFunc_tremor_Reading_r3 : type_of% f_slices_IndexFunc_tremor_Reading_r3.eq_1 := by_rfl f_slices_IndexFunc_tremor_Reading_r3.eq_1
theorem e_slices_IndexFunc_tremor_Reading_r4 : type_of% f_slices_IndexFunc_tremor_Reading_r4.eq_1 := by_rfl f_slices_IndexFunc_tremor_Reading_r4.eq_1
theorem e_slices_IndexFunc_tremor_Reading_r5 : type_of% f_slices_IndexFunc_tremor_Reading_r5.eq_1 := by_rfl f_slices_IndexFunc_tremor_Reading_r5.eq_1
theorem e_slices_IndexFunc_tremor_Reading_r6 : type_of% f_slices_IndexFunc_tremor_Reading_r6.eq_1 := by_rfl f_slices_IndexFunc_tremor_Reading_r6.eq_1
theorem e_slices_IndexFunc_tremor_Reading_l7 : type_of% f_slices_IndexFunc_tremor_Reading_l7.eq_1 := by_rfl f_slices_IndexFunc_tremor_Reading_l7.eq_1
theorem e_slices_IndexFunc_tremor_Reading_r8 : type_of% f_slices_IndexFunc_tremor_Reading_r8.eq_1 := by_rfl f_slices_IndexFunc_tremor_Reading_r8.eq_1
theorem e_slices_IndexFunc_tremor_Reading : type_of% f_slices_IndexFunc_tremor_Reading.eq_1 := by_rfl f_slices_IndexFunc_tremor_Reading.eq_1
theorem ok_slices_IndexFunc_tremor_Reading : fnC Tryz.prog a_slices_IndexFunc_tremor_Reading Tryz.f102 = some f_slices_IndexFunc_tremor_Reading := by kernel_rfl

/-! 103 slices.IndexFunc[[]int,int] -/
def f_slices_IndexFunc_int_r0 : List Abs.Op := [
  ⟨some 4, none, false, .mv (.c (.int .i64 0))⟩]

def f_slices_IndexFunc_int_r1 : List Abs.Op := [
  ⟨some 6, none, false, .mv (.t 0)⟩,
  ⟨some 7, none, false, .lenS (.t 6)⟩,
  ⟨some 8, none, false, .mv (.c (.int .i64 0))⟩]

def f_slices_IndexFunc_int_r2 : List Abs.Op := [
  ⟨some 9, none, false, .bin .lss (.t 8) (.t 7)⟩]

def f_slices_IndexFunc_int_r3 : List Abs.Op := [
  ⟨some 10, none, false, .mv (.t 8)⟩,
  ⟨some 5, none, false, .mv (.t 10)⟩]

def f_slices_IndexFunc_int_r4 : List Abs.Op := [
  ⟨some 11, none, false, .mv (.t 1)⟩,
  ⟨some 12, none, false, .mv (.t 0)⟩,
  ⟨some 13, none, false, .mv (.t 5)⟩,
  ⟨some 14, none, false, .idxS 1 (.t 12) (.t 13)⟩,
  ⟨some 15, none, false, .ld false 1 (.t 14)⟩,
  ⟨some 16, none, false, .call false (.t 11) [(.t 15)]⟩]

def f_slices_IndexFunc_int_r5 : List Abs.Op := [
  ⟨some 17, none, false, .mv (.t 5)⟩,
  ⟨some 4, none, false, .mv (.t 17)⟩]

def f_slices_IndexFunc_int_r6 : List Abs.Op := [
  ⟨some 18, none, false, .bin .add (.t 8) (.c (.int .i64 1))⟩,
  ⟨some 8, none, false, .mv (.t 18)⟩]

def f_slices_IndexFunc_int_l7 : Abs.Cmd :=
  (.seq (.reg [0, 1, 7, 8, 9] f_slices_IndexFunc_int_r2) (.seq (.ite (.t 9) .nop (.exit 0)) (.seq (.blk 1 (.seq (.reg [0, 1, 5, 7, 8] f_slices_IndexFunc_int_r3) (.seq (.reg [0, 1, 5, 7, 8, 16] f_slices_IndexFunc_int_r4) (.ite (.t 16) (.seq (.reg [4] f_slices_IndexFunc_int_r5) .ret) .nop)))) (.reg [0, 1, 7, 8] f_slices_IndexFunc_int_r6))))

def f_slices_IndexFunc_int_r8 : List Abs.Op := [
  ⟨some 4, none, false, .mv (.c (.int .i64 (-1)))⟩]

def a_slices_IndexFunc_int : Ann := ⟨[(7, [4]), (6, [0, 1, 7, 8]), (5, [4]), (4, [0, 1, 5, 7, 8, 16]), (3, [0, 1, 5, 7, 8]), (2, [0, 1, 7, 8, 9]), (1, [0, 1, 7, 8]), (0, [0, 1])], [(0, [0, 1, 7, 8])], [], [], [], [], [], [], []⟩
def f_slices_IndexFunc_int : Abs.Fn := ⟨2, [.t 4],
  (.seq (.reg [0, 1] f_slices_IndexFunc_int_r0) (.seq (.seq (.reg [0, 1, 7, 8] f_slices_IndexFunc_int_r1) (.blk 0 (.loop [0, 1, 7, 8] false f_slices_IndexFunc_int_l7))) (.seq (.reg [4] f_slices_IndexFunc_int_r8) .ret)))⟩

theorem e_slices_IndexFunc_int_r0 : type_of% f_slices_IndexFunc_int_r0.eq_1 := by_rfl f_slices_IndexFunc_int_r0.eq_1
theorem e_slices_IndexFunc_int_r1 : type_of% f_slices_IndexFunc_int_r1.eq_1 := by_rfl f_slices_IndexFunc_int_r1.eq_1
theorem e_slices_IndexFunc_int_r2 : type_of% f_slices_IndexFunc_int_r2.eq_1 := by_rfl f_slices_IndexFunc_int_r2.eq_1
theorem e_slices_IndexFunc_int_r3 : type_of% f_slices_IndexFunc_int_r3.eq_1 := by_rfl f_slices_IndexFunc_int_r3.eq_1
theorem e_slices_IndexFunc_int_r4 : type_of% f_slices_IndexFunc_int_r4.eq_1 := by_rfl f_slices_IndexFunc_int_r4.eq_1
theorem e_slices_IndexFunc_int_r5 : type_of% f_slices_IndexFunc_int_r5.eq_1 := by_rfl f_slices_IndexFunc_int_r5.eq_1
theorem e_slices_IndexFunc_int_r6 : type_of% f_slices_IndexFunc_int_r6.eq_1 := by_rfl f_slices_IndexFunc_int_r6.eq_1
theorem e_slices_IndexFunc_int_l7 : type_of% f_slices_IndexFunc_int_l7.eq_1 := by_rfl f_slices_IndexFunc_int_l7.eq_1
theorem e_slices_IndexFunc_int_r8 : type_of% f_slices_IndexFunc_int_r8.eq_1 := by_rfl f_slices_IndexFunc_int_r8.eq_1
theorem e_slices_IndexFunc_int : type_of% f_slices_IndexFunc_int.eq_1 := by_rfl f_slices_IndexFunc_int.eq_1
theorem ok_slices_IndexFunc_int : fnC Tryz.prog a_slices_IndexFunc_int Tryz.f103 = some f_slices_IndexFunc_int := by kernel_rfl

/-! 104 slices.IndexFunc[[]uint8,uint8] -/
def f_slices_IndexFunc_uint8_r0 : List Abs.Op := [
  ⟨some 4, none, false, .mv (.c (.int .i64 0))⟩]

def f_slices_IndexFunc_uint8_r1 : List Abs.Op := [
  ⟨some 6, none, false, .mv (.t 0)⟩,
  ⟨some 7, none, false, .lenS (.t 6)⟩,
  ⟨some 8, none, false, .mv (.c (.int .i64 0))⟩]

def f_slices_IndexFunc_uint8_r2 : List Abs.Op := [
  ⟨some 9, none, false, .bin .lss (.t 8) (.t 7)⟩]

def f_slices_IndexFunc_uint8_r3 : List Abs.Op := [
  ⟨some 10, none, false, .mv (.t 8)⟩,
  ⟨some 5, none, false, .mv (.t 10)⟩]

def f_slices_IndexFunc_uint8_r4 : List Abs.Op := [
  ⟨some 11, none, false, .mv (.t 1)⟩,
  ⟨some 12, none, false, .mv (.t 0)⟩,
  ⟨some 13, none, false, .mv (.t 5)⟩,
  ⟨some 14, none, false, .idxS 1 (.t 12) (.t 13)⟩,
  ⟨some 15, none, false, .ld false 1 (.t 14)⟩,
  ⟨some 16, none, false, .call false (.t 11) [(.t 15)]⟩]

def f_slices_IndexFunc_uint8_r5 : List Abs.Op := [
  ⟨some 17, none, false, .mv (.t 5)⟩,
  ⟨some 4, none, false, .mv (.t 17)⟩]

def f_slices_IndexFunc_uint8_r6 : List Abs.Op := [
  ⟨some 18, none, false, .bin .add (.t 8) (.c (.int .i64 1))⟩,
  ⟨some 8, none, false, .mv (.t 18)⟩]

def f_slices_IndexFunc_uint8_l7 : Abs.Cmd :=
  (.seq (.reg [0, 1, 7, 8, 9] f_slices_IndexFunc_uint8_r2) (.seq (.ite (.t 9) .nop (.exit 0)) (.seq (.blk 1 (.seq (.reg [0, 1, 5, 7, 8] f_slices_IndexFunc_uint8_r3) (.seq (.reg [0, 1, 5, 7, 8, 16] f_slices_IndexFunc_uint8_r4) (.ite (.t 16) (.seq (.reg [4] f_slices_IndexFunc_uint8_r5) .ret) .nop)))) (.reg [0, 1, 7, 8] f_slices_IndexFunc_uint8_r6))))

def f_slices_IndexFunc_uint8_r8 : List Abs.Op := [
  ⟨some 4, none, false, .mv (.c (.int .i64 (-1)))⟩]

def a_slices_IndexFunc_uint8 : Ann := ⟨[(7, [4]), (6, [0, 1, 7, 8]), (5, [4]), (4, [0, 1, 5, 7, 8, 16]), (3, [0, 1, 5, 7, 8]), (2, [0, 1, 7, 8, 9]), (1, [0, 1, 7, 8]), (0, [0, 1])], [(0, [0, 1, 7, 8])], [], [], [], [], [], [], []⟩
def f_slices_IndexFunc_uint8 : Abs.Fn := ⟨2, [.t 4],
  (.seq (.reg [0, 1] f_slices_IndexFunc_uint8_r0) (.seq (.seq (.reg [0, 1, 7, 8] f_slices_IndexFunc_uint8_r1) (.blk 0 (.loop [0, 1, 7, 8] false f_slices_IndexFunc_uint8_l7))) (.seq (.reg [4] f_slices_IndexFunc_uint8_r8) .ret)))⟩

theorem e_slices_IndexFunc_uint8_r0 : type_of% f_slices_IndexFunc_uint8_r0.eq_1 := by_rfl f_slices_IndexFunc_uint8_r0.eq_1
theorem e_slices_IndexFunc_uint8_r1 : type_of% f_slices_IndexFunc_uint8_r1.eq_1 := by_rfl f_slices_IndexFunc_uint8_r1.eq_1
theorem e_slices_IndexFunc_uint8_r2 : type_of% f_slices_IndexFunc_uint8_r2.eq_1 := by_rfl f_slices_IndexFunc_uint8_r2.eq_1
theorem e_slices_IndexFunc_uint8_r3 : type_of% f_slices_IndexFunc_uint8_r3.eq_1 := by_rfl f_slices_IndexFunc_uint8_r3.eq_1
theorem e_slices_IndexFunc_uint8_r4 : type_of% f_slices_IndexFunc_uint8_r4.eq_1 := by_rfl f_slices_IndexFunc_uint8_r4.eq_1
theorem e_slices_IndexFunc_uint8_r5 : type_of% f_slices_IndexFunc_uint8_r5.eq_1 := by_rfl f_slices_IndexFunc_uint8_r5.eq_1
theorem e_slices_IndexFunc_uint8_r6 : type_of% f_slices_IndexFunc_uint8_r6.eq_1 := by_rfl f_slices_IndexFunc_uint8_r6.eq_1
theorem e_slices_IndexFunc_uint8_l7 : type_of% f_slices_IndexFunc_uint8_l7.eq_1 := by_rfl f_slices_IndexFunc_uint8_l7.eq_1
theorem e_slices_IndexFunc_uint8_r8 : type_of% f_slices_IndexFunc_uint8_r8.eq_1 := by_rfl f_slices_IndexFunc_uint8_r8.eq_1
theorem e_slices_IndexFunc_uint8 : type_of% f_slices_IndexFunc_uint8.eq_1 := by_rfl f_slices_IndexFunc_uint8.eq_1
theorem ok_slices_IndexFunc_uint8 : fnC Tryz.prog a_slices_IndexFunc_uint8 Tryz.f104 = some f_slices_IndexFunc_uint8 := by kernel_rfl

/-! 105 slices.IndexFunc[[]fumarole/tremor.Station,fumarole/tremor.Station] -/
def f_slices_IndexFunc_tremor_Station_r0 : List Abs.Op := [
  ⟨some 4, none, false, .mv (.c (.int .i64 0))⟩]

def f_slices_IndexFunc_tremor_Station_r1 : List Abs.Op := [
  ⟨some 6, none, false, .mv (.t 0)⟩,
  ⟨some 7, none, false, .lenS (.t 6)⟩,
  ⟨some 8, none, false, .mv (.c (.int .i64 0))⟩]

def f_slices_IndexFunc_tremor_Station_r2 : List Abs.Op := [
  ⟨some 9, none, false, .bin .lss (.t 8) (.t 7)⟩]

def f_slices_IndexFunc_tremor_Station_r3 : List Abs.Op := [
  ⟨some 10, none, false, .mv (.t 8)⟩,
  ⟨some 5, none, false, .mv (.t 10)⟩]

def f_slices_IndexFunc_tremor_Station_r4 : List Abs.Op := [
  ⟨some 11, none, false, .mv (.t 1)⟩,
  ⟨some 12, none, false, .mv (.t 0)⟩,
  ⟨some 13, none, false, .mv (.t 5)⟩,
  ⟨some 14, none, false, .idxS 4 (.t 12) (.t 13)⟩,
  ⟨some 15, none, false, .ld true 4 (.t 14)⟩,
  ⟨some 16, none, false, .call false (.t 11) [(.t 15)]⟩]

def f_slices_IndexFunc_tremor_Station_r5 : List Abs.Op := [
  ⟨some 17, none, false, .mv (.t 5)⟩,
  ⟨some 4, none, false, .mv (.t 17)⟩]

def f_slices_IndexFunc_tremor_Station_r6 : List Abs.Op := [
  ⟨some 18, none, false, .bin .add (.t 8) (.c (.int .i64 1))⟩,
  ⟨some 8, none, false, .mv (.t 18)⟩]

def f_slices_IndexFunc_tremor_Station_l7 : Abs.Cmd :=
  (.seq (.reg [0, 1, 7, 8, 9] f_slices_IndexFunc_tremor_Station_r2) (.seq (.ite (.t 9) .nop (.exit 0)) (.seq (.blk 1 (.seq (.reg [0, 1, 5, 7, 8] f_slices_IndexFunc_tremor_Station_r3) (.seq (.reg [0, 1, 5, 7, 8, 16] f_slices_IndexFunc_tremor_Station_r4) (.ite (.t 16) (.seq (.reg [4] f_slices_IndexFunc_tremor_Station_r5) .ret) .nop)))) (.reg [0, 1, 7, 8] f_slices_IndexFunc_tremor_Station_r6))))

def f_slices_IndexFunc_tremor_Station_r8 : List Abs.Op := [
  ⟨some 4, none, false, .mv (.c (.int .i64 (-1)))⟩]

def a_slices_IndexFunc_tremor_Station : Ann := ⟨[(7, [4]), (6, [0, 1, 7, 8]), (5, [4]), (4, [0, 1, 5, 7, 8, 16]), (3, [0, 1, 5, 7, 8]), (2, [0, 1, 7, 8, 9]), (1, [0, 1, 7, 8]), (0, [0, 1])], [(0, [0, 1, 7, 8])], [], [], [], [], [], [], []⟩
def f_slices_IndexFunc_tremor_Station : Abs.Fn := ⟨2, [.t 4],
  (.seq (.reg [0, 1] f_slices_IndexFunc_tremor_Station_r0) (.seq (.seq (.reg [0, 1, 7, 8] f_slices_IndexFunc_tremor_Station_r1) (.blk 0 (.loop [0, 1, 7, 8] false f_slices_IndexFunc_tremor_Station_l7))) (.seq (.reg [4] f_slices_IndexFunc_tremor_Station_r8) .ret)))⟩

theorem e_slices_IndexFunc_tremor_Station_r0 : type_of% f_slices_IndexFunc_tremor_Station_r0.eq_1 := by_rfl f_slices_IndexFunc_tremor_Station_r0.eq_1
theorem e_slices_IndexFunc_tremor_Station_r1 : type_of% f_slices_IndexFunc_tremor_Station_r1.eq_1 := by_rfl f_slices_IndexFunc_tremor_Station_r1.eq_1
theorem e_slices_IndexFunc_tremor_Station_r2 : type_of% f_slices_IndexFunc_tremor_Station_r2.eq_1 := by_rfl f_slices_IndexFunc_tremor_Station_r2.eq_1
theorem e_slices_IndexFunc_tremor_Station_r3 : type_of% f_slices_IndexFunc_tremor_Station_r3.eq_1 := by_rfl f_slices_IndexFunc_tremor_Station_r3.eq_1
theorem e_slices_IndexFunc_tremor_Station_r4 : type_of% f_slices_IndexFunc_tremor_Station_r4.eq_1 := by_rfl f_slices_IndexFunc_tremor_Station_r4.eq_1
theorem e_slices_IndexFunc_tremor_Station_r5 : type_of% f_slices_IndexFunc_tremor_Station_r5.eq_1 := by_rfl f_slices_IndexFunc_tremor_Station_r5.eq_1
theorem e_slices_IndexFunc_tremor_Station_r6 : type_of% f_slices_IndexFunc_tremor_Station_r6.eq_1 := by_rfl f_slices_IndexFunc_tremor_Station_r6.eq_1
theorem e_slices_IndexFunc_tremor_Station_l7 : type_of% f_slices_IndexFunc_tremor_Station_l7.eq_1 := by_rfl f_slices_IndexFunc_tremor_Station_l7.eq_1
theorem e_slices_IndexFunc_tremor_Station_r8 : type_of% f_slices_IndexFunc_tremor_Station_r8.eq_1 := by_rfl f_slices_IndexFunc_tremor_Station_r8.eq_1
theorem e_slices_IndexFunc_tremor_Station : type_of% f_slices_IndexFunc_tremor_Station.eq_1 := by_rfl f_slices_IndexFunc_tremor_Station.eq_1
theorem ok_slices_IndexFunc_tremor_Station : fnC Tryz.prog a_slices_IndexFunc_tremor_Station Tryz.f105 = some f_slices_IndexFunc_tremor_Station := by kernel_rfl

/-! 106 slices.IndexFunc[[]fumarole/tremor.Range,fumarole/tremor.Range] -/
def f_slices_IndexFunc_tremor_Range_r0 : List Abs.Op := [
  ⟨some 4, none, false, .mv (.c (.int .i64 0))⟩]

def f_slices_IndexFunc_tremor_Range_r1 : List Abs.Op := [
  ⟨some 6, none, false, .mv (.t 0)⟩,
  ⟨some 7, none, false, .lenS (.t 6)⟩,
  ⟨some 8, none, false, .mv (.c (.int .i64 0))⟩]

def f_slices_IndexFunc_tremor_Range_r2 : List Abs.Op := [
  ⟨some 9, none, false, .bin .lss (.t 8) (.t 7)⟩]

def f_slices_IndexFunc_tremor_Range_r3 : List Abs.Op := [
  ⟨some 10, none, false, .mv (.t 8)⟩,
  ⟨some 5, none, false, .mv (.t 10)⟩]

def f_slices_IndexFunc_tremor_Range_r4 : List Abs.Op := [
  ⟨some 11, none, false, .mv (.t 1)⟩,
  ⟨some 12, none, false, .mv (.t 0)⟩,
  ⟨some 13, none, false, .mv (.t 5)⟩,
  ⟨some 14, none, false, .idxS 2 (.t 12) (.t 13)⟩,
  ⟨some 15, none, false, .ld true 2 (.t 14)⟩,
  ⟨some 16, none, false, .call false (.t 11) [(.t 15)]⟩]

def f_slices_IndexFunc_tremor_Range_r5 : List Abs.Op := [
  ⟨some 17, none, false, .mv (.t 5)⟩,
  ⟨some 4, none, false, .mv (.t 17)⟩]

def f_slices_IndexFunc_tremor_Range_r6 : List Abs.Op := [
  ⟨some 18, none, false, .bin .add (.t 8) (.c (.int .i64 1))⟩,
  ⟨some 8, none, false, .mv (.t 18)⟩]

def f_slices_IndexFunc_tremor_Range_l7 : Abs.Cmd :=
  (.seq (.reg [0, 1, 7, 8, 9] f_slices_IndexFunc_tremor_Range_r2) (.seq (.ite (.t 9) .nop (.exit 0)) (.seq (.blk 1 (.seq (.reg [0, 1, 5, 7, 8] f_slices_IndexFunc_tremor_Range_r3) (.seq (.reg [0, 1, 5, 7, 8, 16] f_slices_IndexFunc_tremor_Range_r4) (.ite (.t 16) (.seq (.reg [4] f_slices_IndexFunc_tremor_Range_r5) .ret) .nop)))) (.reg [0, 1, 7, 8] f_slices_IndexFunc_tremor_Range_r6))))

def f_slices_IndexFunc_tremor_Range_r8 : List Abs.Op := [
  ⟨some 4, none, false, .mv (.c (.int .i64 (-1)))⟩]

def a_slices_IndexFunc_tremor_Range : Ann := ⟨[(7, [4]), (6, [0, 1, 7, 8]), (5, [4]), (4, [0, 1, 5, 7, 8, 16]), (3, [0, 1, 5, 7, 8]), (2, [0, 1, 7, 8, 9]), (1, [0, 1, 7, 8]), (0, [0, 1])], [(0, [0, 1, 7, 8])], [], [], [], [], [], [], []⟩
def f_slices_IndexFunc_tremor_Range : Abs.Fn := ⟨2, [.t 4],
  (.seq (.reg [0, 1] f_slices_IndexFunc_tremor_Range_r0) (.seq (.seq (.reg [0, 1, 7, 8] f_slices_IndexFunc_tremor_Range_r1) (.blk 0 (.loop [0, 1, 7, 8] false f_slices_IndexFunc_tremor_Range_l7))) (.seq (.reg [4] f_slices_IndexFunc_tremor_Range_r8) .ret)))⟩

theorem e_slices_IndexFunc_tremor_Range_r0 : type_of% f_slices_IndexFunc_tremor_Range_r0.eq_1 := by_rfl f_slices_IndexFunc_tremor_Range_r0.eq_1
theorem e_slices_IndexFunc_tremor_Range_r1 : type_of% f_slices_IndexFunc_tremor_Range_r1.eq_1 := by_rfl f_slices_IndexFunc_tremor_Range_r1.eq_1
theorem e_slices_IndexFunc_tremor_Range_r2 : type_of% f_slices_IndexFunc_tremor_Range_r2.eq_1 := by_rfl f_slices_IndexFunc_tremor_Range_r2.eq_1
theorem e_slices_IndexFunc_tremor_Range_r3 : type_of% f_slices_IndexFunc_tremor_Range_r3.eq_1 := by_rfl f_slices_IndexFunc_tremor_Range_r3.eq_1
theorem e_slices_IndexFunc_tremor_Range_r4 : type_of% f_slices_IndexFunc_tremor_Range_r4.eq_1 := by_rfl f_slices_IndexFunc_tremor_Range_r4.eq_1
theorem e_slices_IndexFunc_tremor_Range_r5 : type_of% f_slices_IndexFunc_tremor_Range_r5.eq_1 := by_rfl f_slices_IndexFunc_tremor_Range_r5.eq_1
theorem e_slices_IndexFunc_tremor_Range_r6 : type_of% f_slices_IndexFunc_tremor_Range_r6.eq_1 := by_rfl f_slices_IndexFunc_tremor_Range_r6.eq_1
theorem e_slices_IndexFunc_tremor_Range_l7 : type_of% f_slices_IndexFunc_tremor_Range_l7.eq_1 := by_rfl f_slices_IndexFunc_tremor_Range_l7.eq_1
theorem e_slices_IndexFunc_tremor_Range_r8 : type_of% f_slices_IndexFunc_tremor_Range_r8.eq_1 := by_rfl f_slices_IndexFunc_tremor_Range_r8.eq_1
theorem e_slices_IndexFunc_tremor_Range : type_of% f_slices_IndexFunc_tremor_Range.eq_1 := by_rfl f_slices_IndexFunc_tremor_Range.eq_1
theorem ok_slices_IndexFunc_tremor_Range : fnC Tryz.prog a_slices_IndexFunc_tremor_Range Tryz.f106 = some f_slices_IndexFunc_tremor_Range := by kernel_rfl

/-! 107 slices.IndexFunc[[]fumarole/tremor.Pick,fumarole/tremor.Pick] -/
def f_slices_IndexFunc_tremor_Pick_r0 : List Abs.Op := [
  ⟨some 4, none, false, .mv (.c (.int .i64 0))⟩]

def f_slices_IndexFunc_tremor_Pick_r1 : List Abs.Op := [
  ⟨some 6, none, false, .mv (.t 0)⟩,
  ⟨some 7, none, false, .lenS (.t 6)⟩,
  ⟨some 8, none, false, .mv (.c (.int .i64 0))⟩]

def f_slices_IndexFunc_tremor_Pick_r2 : List Abs.Op := [
  ⟨some 9, none, false, .bin .lss (.t 8) (.t 7)⟩]

def f_slices_IndexFunc_tremor_Pick_r3 : List Abs.Op := [
  ⟨some 10, none, false, .mv (.t 8)⟩,
  ⟨some 5, none, false, .mv (.t 10)⟩]

def f_slices_IndexFunc_tremor_Pick_r4 : List Abs.Op := [
  ⟨some 11, none, false, .mv (.t 1)⟩,
  ⟨some 12, none, false, .mv (.t 0)⟩,
  ⟨some 13, none, false, .mv (.t 5)⟩,
  ⟨some 14, none, false, .idxS 4 (.t 12) (.t 13)⟩,
  ⟨some 15, none, false, .ld true 4 (.t 14)⟩,
  ⟨some 16, none, false, .call false (.t 11) [(.t 15)]⟩]

def f_slices_IndexFunc_tremor_Pick_r5 : List Abs.Op := [
  ⟨some 17, none, false, .mv (.t 5)⟩,
  ⟨some 4, none, false, .mv (.t 17)⟩]

def f_slices_IndexFunc_tremor_Pick_r6 : List Abs.Op := [
  ⟨some 18, none, false, .bin .add (.t 8) (.c (.int .i64 1))⟩,
  ⟨some 8, none, false, .mv (.t 18)⟩]

def f_slices_IndexFunc_tremor_Pick_l7 : Abs.Cmd :=
  (.seq (.reg [0, 1, 7, 8, 9] f_slices_IndexFunc_tremor_Pick_r2) (.seq (.ite (.t 9) .nop (.exit 0)) (.seq (.blk 1 (.seq (.reg [0, 1, 5, 7, 8] f_slices_IndexFunc_tremor_Pick_r3) (.seq (.reg [0, 1, 5, 7, 8, 16] f_slices_IndexFunc_tremor_Pick_r4) (.ite (.t 16) (.seq (.reg [4] f_slices_IndexFunc_tremor_Pick_r5) .ret) .nop)))) (.reg [0, 1, 7, 8] f_slices_IndexFunc_tremor_Pick_r6))))

def f_slices_IndexFunc_tremor_Pick_r8 : List Abs.Op := [
  ⟨some 4, none, false, .mv (.c (.int .i64 (-1)))⟩]

def a_slices_IndexFunc_tremor_Pick : Ann := ⟨[(7, [4]), (6, [0, 1, 7, 8]), (5, [4]), (4, [0, 1, 5, 7, 8, 16]), (3, [0, 1, 5, 7, 8]), (2, [0, 1, 7, 8, 9]), (1, [0, 1, 7, 8]), (0, [0, 1])], [(0, [0, 1, 7, 8])], [], [], [], [], [], [], []⟩
def f_slices_IndexFunc_tremor_Pick : Abs.Fn := ⟨2, [.t 4],
  (.seq (.reg [0, 1] f_slices_IndexFunc_tremor_Pick_r0) (.seq (.seq (.reg [0, 1, 7, 8] f_slices_IndexFunc_tremor_Pick_r1) (.blk 0 (.loop [0, 1, 7, 8] false f_slices_IndexFunc_tremor_Pick_l7))) (.seq (.reg [4] f_slices_IndexFunc_tremor_Pick_r8) .ret)))⟩

theorem e_slices_IndexFunc_tremor_Pick_r0 : type_of% f_slices_IndexFunc_tremor_Pick_r0.eq_1 := by_rfl f_slices_IndexFunc_tremor_Pick_r0.eq_1
theorem e_slices_IndexFunc_tremor_Pick_r1 : type_of% f_slices_IndexFunc_tremor_Pick_r1.eq_1 := by_rfl f_slices_IndexFunc_tremor_Pick_r1.eq_1
theorem e_slices_IndexFunc_tremor_Pick_r2 : type_of% f_slices_IndexFunc_tremor_Pick_r2.eq_1 := by_rfl f_slices_IndexFunc_tremor_Pick_r2.eq_1
theorem e_slices_IndexFunc_tremor_Pick_r3 : type_of% f_slices_IndexFunc_tremor_Pick_r3.eq_1 := by_rfl f_slices_IndexFunc_tremor_Pick_r3.eq_1
theorem e_slices_IndexFunc_tremor_Pick_r4 : type_of% f_slices_IndexFunc_tremor_Pick_r4.eq_1 := by_rfl f_slices_IndexFunc_tremor_Pick_r4.eq_1
theorem e_slices_IndexFunc_tremor_Pick_r5 : type_of% f_slices_IndexFunc_tremor_Pick_r5.eq_1 := by_rfl f_slices_IndexFunc_tremor_Pick_r5.eq_1
theorem e_slices_IndexFunc_tremor_Pick_r6 : type_of% f_slices_IndexFunc_tremor_Pick_r6.eq_1 := by_rfl f_slices_IndexFunc_tremor_Pick_r6.eq_1
theorem e_slices_IndexFunc_tremor_Pick_l7 : type_of% f_slices_IndexFunc_tremor_Pick_l7.eq_1 := by_rfl f_slices_IndexFunc_tremor_Pick_l7.eq_1
theorem e_slices_IndexFunc_tremor_Pick_r8 : type_of% f_slices_IndexFunc_tremor_Pick_r8.eq_1 := by_rfl f_slices_IndexFunc_tremor_Pick_r8.eq_1
theorem e_slices_IndexFunc_tremor_Pick : type_of% f_slices_IndexFunc_tremor_Pick.eq_1 := by_rfl f_slices_IndexFunc_tremor_Pick.eq_1
theorem ok_slices_IndexFunc_tremor_Pick : fnC Tryz.prog a_slices_IndexFunc_tremor_Pick Tryz.f107 = some f_slices_IndexFunc_tremor_Pick := by kernel_rfl

/-! 108 slices.IndexFunc[[]fumarole/tremor.Row,fumarole/tremor.Row] -/
def f_slices_IndexFunc_tremor_Row_r0 : List Abs.Op := [
  ⟨some 4, none, false, .mv (.c (.int .i64 0))⟩]

def f_slices_IndexFunc_tremor_Row_r1 : List Abs.Op := [
  ⟨some 6, none, false, .mv (.t 0)⟩,
  ⟨some 7, none, false, .lenS (.t 6)⟩,
  ⟨some 8, none, false, .mv (.c (.int .i64 0))⟩]

def f_slices_IndexFunc_tremor_Row_r2 : List Abs.Op := [
  ⟨some 9, none, false, .bin .lss (.t 8) (.t 7)⟩]

def f_slices_IndexFunc_tremor_Row_r3 : List Abs.Op := [
  ⟨some 10, none, false, .mv (.t 8)⟩,
  ⟨some 5, none, false, .mv (.t 10)⟩]

def f_slices_IndexFunc_tremor_Row_r4 : List Abs.Op := [
  ⟨some 11, none, false, .mv (.t 1)⟩,
  ⟨some 12, none, false, .mv (.t 0)⟩,
  ⟨some 13, none, false, .mv (.t 5)⟩,
  ⟨some 14, none, false, .idxS 2 (.t 12) (.t 13)⟩,
  ⟨some 15, none, false, .ld true 2 (.t 14)⟩,
  ⟨some 16, none, false, .call false (.t 11) [(.t 15)]⟩]

def f_slices_IndexFunc_tremor_Row_r5 : List Abs.Op := [
  ⟨some 17, none, false, .mv (.t 5)⟩,
  ⟨some 4, none, false, .mv (.t 17)⟩]

def f_slices_IndexFunc_tremor_Row_r6 : List Abs.Op := [
  ⟨some 18, none, false, .bin .add (.t 8) (.c (.int .i64 1))⟩,
  ⟨some 8, none, false, .mv (.t 18)⟩]

def f_slices_IndexFunc_tremor_Row_l7 : Abs.Cmd :=
  (.seq (.reg [0, 1, 7, 8, 9] f_slices_IndexFunc_tremor_Row_r2) (.seq (.ite (.t 9) .nop (.exit 0)) (.seq (.blk 1 (.seq (.reg [0, 1, 5, 7, 8] f_slices_IndexFunc_tremor_Row_r3) (.seq (.reg [0, 1, 5, 7, 8, 16] f_slices_IndexFunc_tremor_Row_r4) (.ite (.t 16) (.seq (.reg [4] f_slices_IndexFunc_tremor_Row_r5) .ret) .nop)))) (.reg [0, 1, 7, 8] f_slices_IndexFunc_tremor_Row_r6))))

def f_slices_IndexFunc_tremor_Row_r8 : List Abs.Op := [
  ⟨some 4, none, false, .mv (.c (.int .i64 (-1)))⟩]

def a_slices_IndexFunc_tremor_Row : Ann := ⟨[(7, [4]), (6, [0, 1, 7, 8]), (5, [4]), (4, [0, 1, 5, 7, 8, 16]), (3, [0, 1, 5, 7, 8]), (2, [0, 1, 7, 8, 9]), (1, [0, 1, 7, 8]), (0, [0, 1])], [(0, [0, 1, 7, 8])], [], [], [], [], [], [], []⟩
def f_slices_IndexFunc_tremor_Row : Abs.Fn := ⟨2, [.t 4],
  (.seq (.reg [0, 1] f_slices_IndexFunc_tremor_Row_r0) (.seq (.seq (.reg [0, 1, 7, 8] f_slices_IndexFunc_tremor_Row_r1) (.blk 0 (.loop [0, 1, 7, 8] false f_slices_IndexFunc_tremor_Row_l7))) (.seq (.reg [4] f_slices_IndexFunc_tremor_Row_r8) .ret)))⟩

theorem e_slices_IndexFunc_tremor_Row_r0 : type_of% f_slices_IndexFunc_tremor_Row_r0.eq_1 := by_rfl f_slices_IndexFunc_tremor_Row_r0.eq_1
theorem e_slices_IndexFunc_tremor_Row_r1 : type_of% f_slices_IndexFunc_tremor_Row_r1.eq_1 := by_rfl f_slices_IndexFunc_tremor_Row_r1.eq_1
theorem e_slices_IndexFunc_tremor_Row_r2 : type_of% f_slices_IndexFunc_tremor_Row_r2.eq_1 := by_rfl f_slices_IndexFunc_tremor_Row_r2.eq_1
theorem e_slices_IndexFunc_tremor_Row_r3 : type_of% f_slices_IndexFunc_tremor_Row_r3.eq_1 := by_rfl f_slices_IndexFunc_tremor_Row_r3.eq_1
theorem e_slices_IndexFunc_tremor_Row_r4 : type_of% f_slices_IndexFunc_tremor_Row_r4.eq_1 := by_rfl f_slices_IndexFunc_tremor_Row_r4.eq_1
theorem e_slices_IndexFunc_tremor_Row_r5 : type_of% f_slices_IndexFunc_tremor_Row_r5.eq_1 := by_rfl f_slices_IndexFunc_tremor_Row_r5.eq_1
theorem e_slices_IndexFunc_tremor_Row_r6 : type_of% f_slices_IndexFunc_tremor_Row_r6.eq_1 := by_rfl f_slices_IndexFunc_tremor_Row_r6.eq_1
theorem e_slices_IndexFunc_tremor_Row_l7 : type_of% f_slices_IndexFunc_tremor_Row_l7.eq_1 := by_rfl f_slices_IndexFunc_tremor_Row_l7.eq_1
theorem e_slices_IndexFunc_tremor_Row_r8 : type_of% f_slices_IndexFunc_tremor_Row_r8.eq_1 := by_rfl f_slices_IndexFunc_tremor_Row_r8.eq_1
theorem e_slices_IndexFunc_tremor_Row : type_of% f_slices_IndexFunc_tremor_Row.eq_1 := by_rfl f_slices_IndexFunc_tremor_Row.eq_1
theorem ok_slices_IndexFunc_tremor_Row : fnC Tryz.prog a_slices_IndexFunc_tremor_Row Tryz.f108 = some f_slices_IndexFunc_tremor_Row := by kernel_rfl

end Go.Proofs.YticpenoicajakaaGreat
