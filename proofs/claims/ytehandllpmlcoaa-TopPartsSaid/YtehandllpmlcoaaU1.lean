/-
  Contracts.
-/
import Derived.Test.YtehandllpmlcoaaR19
import Derived.Test.YtehandllpmlcoaaTrialSpec
set_option linter.unusedVariables false
set_option linter.unusedSimpArgs false
namespace Go.Proofs.Ytehandllpmlcoaa
open Go Go.Abs Go.Trial
open Go Go.Abs Go.Trial
variable {σ : Stack}

theorem C_within {a b c : Int} : lim T (.call false i_trial_within [.int .i64 a, .int .i64 b, .int .i64 c] σ) = some (.val (.bool (inn a b c)) σ) := by
  refine call_of T_trial_within e_trial_within rfl ?_
  by_cases h : b ≤ a <;> simp [-List.length_flatMap, -List.map_take, eF, h, inn]
theorem C_right {a b lo hi : Int} : lim T (.call false i_trial_Range_right [.agg [.int .i64 a, .int .i64 b], .int .i64 lo, .int .i64 hi] σ) = some (.val (.bool (Rg.right ⟨a, b⟩ lo hi)) σ) := by
  refine call_of T_trial_Range_right e_trial_Range_right rfl ?_
  by_cases hc1 : lo ≤ a
  rotate_left
  · simp [-List.length_flatMap, -List.map_take, eF, Rg.right, hc1]
  by_cases hc2 : a ≤ b
  rotate_left
  · simp [-List.length_flatMap, -List.map_take, eF, Rg.right, hc1, hc2]
  simp [-List.length_flatMap, -List.map_take, eF, Rg.right, hc1, hc2]
theorem C_drops {a b : Int} : lim T (.call false i_trial_Range_drops [.agg [.int .i64 a, .int .i64 b]] σ) = some (.val (.bool (Rg.drops ⟨a, b⟩)) σ) := by
  refine call_of T_trial_Range_drops e_trial_Range_drops rfl ?_
  simp [-List.length_flatMap, -List.map_take, eF, C_right, Rg.drops]
theorem right_in {a b lo hi : Int} : (inn a lo hi && (inn b lo hi && decide (a ≤ b))) = Rg.right ⟨a, b⟩ lo hi := by
  rw [Bool.eq_iff_iff]
  simp [inn, Rg.right]
  omega
theorem right_iff {r : Rg} {lo hi : Int} : r.right lo hi = true ↔ lo ≤ r.lo ∧ r.lo ≤ r.hi ∧ r.hi ≤ hi := by simp [Rg.right]
end Go.Proofs.Ytehandllpmlcoaa
