/-
  The law LeaseSplits answers true.
-/
import Derived.Test.YtcccafphhmcifaaP4
import Derived.Test.YtcccafphhmcifaaW
import Derived.Test.YtcccafphhmcifaaTremTyK
set_option linter.unusedVariables false
set_option linter.unusedSimpArgs false
namespace Go.Proofs.Ytcccafphhmcifaa
open Go Go.Abs Go.Lease
variable {σ : Stack}

theorem law_Splits {a : Int} {ws : List Int} : lim T (.call false i_law11_LeaseSplits [.int .i64 a, .lst ws.length (ws.flatMap intE)] [[]]) = some (.val (.bool true) [[]]) := by
  refine call_of T_law11_LeaseSplits e_law11_LeaseSplits rfl ?_
  by_cases hb : ws.length ≤ 12
  rotate_left
  · have h1 : (12 : Int) < ws.length := by omega
    simp [-List.length_flatMap, -List.map_take, e_law11_LeaseSplits_r0, e_law11_LeaseSplits_r1, e_law11_LeaseSplits_r2, e_law11_LeaseSplits_r3, e_law11_LeaseSplits_r4, e_law11_LeaseSplits_r5, e_law11_LeaseSplits_r6, e_law11_LeaseSplits_r7, e_law11_LeaseSplits_r8, h1, C_wakes]
  have h1 : ¬ (12 : Int) < ws.length := by omega
  have hl := fun σ (hσ : σ ≠ []) => C_list (σ := σ) (l := ws) (by omega) hσ
  have hS := fun σ (hσ : σ ≠ []) => C_Split (σ := σ) (a := a) hb hσ
  have hW := fun σ => C_Weights (σ := σ) hb
  unfold splD at hS
  cases c1 : inn a 0 1000000000000
  · simp only [c1, Bool.false_eq_true, if_false] at hS
    simp [-List.length_flatMap, -List.map_take, e_law11_LeaseSplits_r0, e_law11_LeaseSplits_r1, e_law11_LeaseSplits_r2, e_law11_LeaseSplits_r3, e_law11_LeaseSplits_r4, e_law11_LeaseSplits_r5, e_law11_LeaseSplits_r6, e_law11_LeaseSplits_r7, e_law11_LeaseSplits_r8, h1, hl, hS, D_In, c1, C_wakes]
  cases c2 : wsOk ws
  · simp only [c1, c2, Bool.false_eq_true, if_false, if_true] at hS
    simp [-List.length_flatMap, -List.map_take, e_law11_LeaseSplits_r0, e_law11_LeaseSplits_r1, e_law11_LeaseSplits_r2, e_law11_LeaseSplits_r3, e_law11_LeaseSplits_r4, e_law11_LeaseSplits_r5, e_law11_LeaseSplits_r6, e_law11_LeaseSplits_r7, e_law11_LeaseSplits_r8, h1, hl, hS, hW, D_In, c1, c2, C_wakes]
  simp only [c1, c2, if_true] at hS
  have hw := wp_of (inn_iff.1 c1) c2
  have hR := fun σ (hσ : σ ≠ []) => C_RSplit (σ := σ) hw hσ
  have hI := fun σ => C_ints (σ := σ) (a := splitL a ws) (b := splitL a ws) (by rw [splitL_len]; omega)
  rw [splitL_len] at hI
  simp [-List.length_flatMap, -List.map_take, e_law11_LeaseSplits_r0, e_law11_LeaseSplits_r1, e_law11_LeaseSplits_r2, e_law11_LeaseSplits_r3, e_law11_LeaseSplits_r4, e_law11_LeaseSplits_r5, e_law11_LeaseSplits_r6, e_law11_LeaseSplits_r7, e_law11_LeaseSplits_r8, h1, hl, hS, hW, hR, hI, D_In, c1, c2, C_wakes]
theorem rows_i64 {ds : List D} (h : (Ty.int .i64).has ds) : ∃ x : Int, ds = intE x ∧ (-9223372036854775808 ≤ x ∧ x ≤ 9223372036854775807) := by
  obtain ⟨n, rfl, hw⟩ := h
  exact ⟨n, rfl, wf_i64 hw⟩
theorem go_LeaseSplits (x0 x1 : D) (t0 : (Ty.int .i64).hasV x0) (t1 : (Ty.slice 1 (.int .i64)).hasV x1) :
    ∃ σ', lim T (.call false i_law11_LeaseSplits [x0, x1] [[]]) = some (.val (.bool true) σ') := by
  obtain ⟨a, rfl, ha⟩ := i64_of t0
  obtain ⟨ws, rfl, _, _⟩ := rows_of (fun ds h => rows_i64 h) t1
  exact ⟨_, law_Splits⟩
end Go.Proofs.Ytcccafphhmcifaa
