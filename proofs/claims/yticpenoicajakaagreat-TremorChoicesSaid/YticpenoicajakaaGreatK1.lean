/-
  What the functions on points, ranges, stations and networks answer.
-/
import Derived.Test.YticpenoicajakaaGreatTab
import Derived.Test.YticpenoicajakaaGreatTremSpec
set_option linter.unusedVariables false
set_option linter.unusedSimpArgs false
namespace Go.Proofs.YticpenoicajakaaGreat
open Go Go.Abs Go.Trem
variable {σ : Stack}

theorem C_within {a b c : Int} : lim T (.call false i_tremor_within [.int .i64 a, .int .i64 b, .int .i64 c] σ) = some (.val (.bool (inn a b c)) σ) := by
  refine call_of T_tremor_within e_tremor_within rfl ?_
  by_cases h : b ≤ a <;> simp [-List.length_flatMap, -List.map_take, e_tremor_within_r0, e_tremor_within_r1, h, inn]
theorem C_In {a b c : Int} : lim T (.call false i_ref09_In [.int .i64 a, .int .i64 b, .int .i64 c] σ) = some (.val (.bool (inn a b c)) σ) := by
  refine call_of T_ref09_In e_ref09_In rfl ?_
  by_cases h : b ≤ a <;> simp [-List.length_flatMap, -List.map_take, e_ref09_In_r0, e_ref09_In_r1, h, inn]
theorem C_pv1 {a : Int} : lim T (.call false i_tremor_Point_valid_1 [.int .i64 a] σ) = some (.val (.bool (inn a (-20000) 20000)) σ) := by
  refine call_of T_tremor_Point_valid_1 e_tremor_Point_valid_1 rfl ?_
  simp [-List.length_flatMap, -List.map_take, e_tremor_Point_valid_1_r0, e_tremor_Point_valid_1_r1, C_within]
theorem C_all_int {l : List Int} (hl : l.length ≤ 9223372036854775807) {fv : D} {p : Int → Bool} (ht : Tests T fv (.int .i64) p l) (hc : fv.cells = some [fv]) :
    lim T (.call false i_tremor_all_int [.lst l.length (l.flatMap intE), fv] σ) = some (.val (.bool (allB l p)) σ) :=
  all_of (eltInt .i64) T_tremor_all_int T_tremor_all_int_1 T_slices_ContainsFunc_int T_slices_IndexFunc_int hl ht hc
theorem C_pvalid {x y z : Int} : lim T (.call false i_tremor_Point_valid [.agg [.int .i64 x, .int .i64 y, .int .i64 z]] σ) = some (.val (.bool (Pt.ok ⟨x, y, z⟩)) σ) := by
  refine call_of T_tremor_Point_valid e_tremor_Point_valid rfl ?_
  have h : ∀ σ, lim T (.call false i_tremor_all_int [.lst 3 [.int .i64 x, .int .i64 y, .int .i64 z], .fn i_tremor_Point_valid_1 [] []] σ) = some (.val (.bool (Pt.ok ⟨x, y, z⟩)) σ) := fun σ => by
    have := C_all_int (σ := σ) (l := [x, y, z]) (by simp) (fv := .fn i_tremor_Point_valid_1 [] []) (p := fun a => inn a (-20000) 20000) (.fn fun a _ σ => C_pv1) rfl
    simpa [Pt.ok, Bool.and_assoc, allB] using this
  simp [-List.length_flatMap, -List.map_take, e_tremor_Point_valid_r0, e_tremor_Point_valid_r1, h]
theorem C_Dot {x y z : Int} : lim T (.call false i_ref09_Dot [.agg [.int .i64 x, .int .i64 y, .int .i64 z]] σ) = some (.val (.bool (Pt.ok ⟨x, y, z⟩)) σ) := by
  refine call_of T_ref09_Dot e_ref09_Dot rfl ?_
  cases hc1 : inn x (-20000) 20000
  · simp [-List.length_flatMap, -List.map_take, e_ref09_Dot_r0, e_ref09_Dot_r1, C_In, Pt.ok, hc1]
  cases hc2 : inn y (-20000) 20000
  · simp [-List.length_flatMap, -List.map_take, e_ref09_Dot_r0, e_ref09_Dot_r1, C_In, Pt.ok, hc1, hc2]
  simp [-List.length_flatMap, -List.map_take, e_ref09_Dot_r0, e_ref09_Dot_r1, C_In, Pt.ok, hc1, hc2]
theorem C_box {x y z a b c : Int} : lim T (.call false i_tremor_box [.agg [.int .i64 x, .int .i64 y, .int .i64 z], .agg [.int .i64 a, .int .i64 b, .int .i64 c]] σ) = some (.val (.bool (boxOk ⟨x, y, z⟩ ⟨a, b, c⟩)) σ) := by
  refine call_of T_tremor_box e_tremor_box rfl ?_
  cases hc1 : Pt.ok ⟨x, y, z⟩
  · simp [-List.length_flatMap, -List.map_take, e_tremor_box_r0, e_tremor_box_r1, C_pvalid, boxOk, hc1]
  cases hc2 : Pt.ok ⟨a, b, c⟩
  · simp [-List.length_flatMap, -List.map_take, e_tremor_box_r0, e_tremor_box_r1, C_pvalid, boxOk, hc1, hc2]
  by_cases hc3 : x ≤ a
  rotate_left
  · simp [-List.length_flatMap, -List.map_take, e_tremor_box_r0, e_tremor_box_r1, C_pvalid, boxOk, hc1, hc2, hc3]
  by_cases hc4 : y ≤ b
  rotate_left
  · simp [-List.length_flatMap, -List.map_take, e_tremor_box_r0, e_tremor_box_r1, C_pvalid, boxOk, hc1, hc2, hc3, hc4]
  simp [-List.length_flatMap, -List.map_take, e_tremor_box_r0, e_tremor_box_r1, C_pvalid, boxOk, hc1, hc2, hc3, hc4]
theorem C_Box {x y z a b c : Int} : lim T (.call false i_ref09_Box [.agg [.int .i64 x, .int .i64 y, .int .i64 z], .agg [.int .i64 a, .int .i64 b, .int .i64 c]] σ) = some (.val (.bool (boxOk ⟨x, y, z⟩ ⟨a, b, c⟩)) σ) := by
  refine call_of T_ref09_Box e_ref09_Box rfl ?_
  cases hc1 : Pt.ok ⟨x, y, z⟩
  · simp [-List.length_flatMap, -List.map_take, e_ref09_Box_r0, e_ref09_Box_r1, C_Dot, boxOk, hc1]
  cases hc2 : Pt.ok ⟨a, b, c⟩
  · simp [-List.length_flatMap, -List.map_take, e_ref09_Box_r0, e_ref09_Box_r1, C_Dot, boxOk, hc1, hc2]
  by_cases hc3 : x ≤ a
  rotate_left
  · simp [-List.length_flatMap, -List.map_take, e_ref09_Box_r0, e_ref09_Box_r1, C_Dot, boxOk, hc1, hc2, hc3]
  by_cases hc4 : y ≤ b
  rotate_left
  · simp [-List.length_flatMap, -List.map_take, e_ref09_Box_r0, e_ref09_Box_r1, C_Dot, boxOk, hc1, hc2, hc3, hc4]
  simp [-List.length_flatMap, -List.map_take, e_ref09_Box_r0, e_ref09_Box_r1, C_Dot, boxOk, hc1, hc2, hc3, hc4]
theorem C_rin {a b lo hi : Int} : lim T (.call false i_tremor_Range_in [.agg [.int .i64 a, .int .i64 b], .int .i64 lo, .int .i64 hi] σ) = some (.val (.bool (Rg.inn ⟨a, b⟩ lo hi)) σ) := by
  refine call_of T_tremor_Range_in e_tremor_Range_in rfl ?_
  by_cases hc1 : lo ≤ a
  rotate_left
  · simp [-List.length_flatMap, -List.map_take, e_tremor_Range_in_r0, e_tremor_Range_in_r1, Rg.inn, hc1]
  by_cases hc2 : a ≤ b
  rotate_left
  · simp [-List.length_flatMap, -List.map_take, e_tremor_Range_in_r0, e_tremor_Range_in_r1, Rg.inn, hc1, hc2]
  simp [-List.length_flatMap, -List.map_take, e_tremor_Range_in_r0, e_tremor_Range_in_r1, Rg.inn, hc1, hc2]
theorem C_svalid {x y z e : Int} : lim T (.call false i_tremor_Station_valid [.agg [.int .i64 x, .int .i64 y, .int .i64 z, .int .i64 e]] σ) = some (.val (.bool (Stn.ok ⟨⟨x, y, z⟩, e⟩)) σ) := by
  refine call_of T_tremor_Station_valid e_tremor_Station_valid rfl ?_
  cases hc1 : Pt.ok ⟨x, y, z⟩
  · simp [-List.length_flatMap, -List.map_take, e_tremor_Station_valid_r0, e_tremor_Station_valid_r1, C_pvalid, C_within, Stn.ok, hc1]
  simp [-List.length_flatMap, -List.map_take, e_tremor_Station_valid_r0, e_tremor_Station_valid_r1, C_pvalid, C_within, Stn.ok, hc1]
theorem C_nv1 {a b : Int} : lim T (.call false i_tremor_Net_valid_1 [.agg [.int .i64 a, .int .i64 b]] σ) = some (.val (.bool (Rg.inn ⟨a, b⟩ 1 2000)) σ) := by
  refine call_of T_tremor_Net_valid_1 e_tremor_Net_valid_1 rfl ?_
  simp [-List.length_flatMap, -List.map_take, e_tremor_Net_valid_1_r0, e_tremor_Net_valid_1_r1, C_rin]
theorem C_has {l : List Stn} {a1 a2 a3 a4 a5 a6 a7 a8 a9 a10 a11 i : Int} (hl : l.length ≤ 9223372036854775807) :
    lim T (.call false i_tremor_Net_has [.agg [.lst l.length (l.flatMap Stn.enc), .int .i64 a1, .int .i64 a2, .int .i64 a3, .int .i64 a4, .int .i64 a5, .int .i64 a6, .int .i64 a7, .int .i64 a8, .int .i64 a9, .int .i64 a10, .int .i64 a11], .int .i64 i] σ) =
      some (.val (.bool (inn i 0 (l.length - 1))) σ) := by
  refine call_of T_tremor_Net_has e_tremor_Net_has rfl ?_
  have h := w64 (n := (l.length : Int) - 1) (by omega)
  simp [-List.length_flatMap, -List.map_take, e_tremor_Net_has_r0, e_tremor_Net_has_r1, C_within, h]
theorem C_steps {d : D} {a1 a2 a3 a4 a5 a6 a7 a8 a9 a10 st lo hi : Int} (h : 1 ≤ st ∧ st ≤ 20000) (h1 : -20000 ≤ lo ∧ lo ≤ 20000) (h2 : -20000 ≤ hi ∧ hi ≤ 20000) :
    lim T (.call false i_tremor_Net_steps [.agg [d, .int .i64 a1, .int .i64 a2, .int .i64 a3, .int .i64 a4, .int .i64 a5, .int .i64 a6, .int .i64 a7, .int .i64 a8, .int .i64 a9, .int .i64 a10, .int .i64 st], .int .i64 lo, .int .i64 hi] σ) =
      some (.val (.int .i64 ((hi - lo).tdiv st + 1)) σ) := by
  refine call_of T_tremor_Net_steps e_tremor_Net_steps rfl ?_
  have h3 : st ≠ 0 := by omega
  have h4 := w64 (n := hi - lo) (by omega)
  have h5 : -40000 ≤ (hi - lo).tdiv st ∧ (hi - lo).tdiv st ≤ 40000 := by
    have := Int.natAbs_tdiv_le_natAbs (hi - lo) st
    omega
  have h6 := w64 (n := (hi - lo).tdiv st) (by omega)
  have h7 := w64 (n := (hi - lo).tdiv st + 1) (by omega)
  simp [-List.length_flatMap, -List.map_take, e_tremor_Net_steps_r0, e_tremor_Net_steps_r1, h3, h4, h6, h7]
end Go.Proofs.YticpenoicajakaaGreat
