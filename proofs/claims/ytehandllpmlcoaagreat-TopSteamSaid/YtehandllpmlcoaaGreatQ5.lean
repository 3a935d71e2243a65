/-
  Bounds.
-/
import Derived.Test.YtehandllpmlcoaaGreatQ4
set_option linter.unusedVariables false
set_option linter.unusedSimpArgs false
namespace Go.Proofs.YtehandllpmlcoaaGreat
open Go Go.Abs Go.Rock
variable {σ : Stack}

theorem C_ends {lo hi n : Int} : lim T (.call false i_steam_Range_ends [.agg [.int .i64 lo, .int .i64 hi], .int .i64 n] σ) = some (.val (.bool (decide (0 ≤ lo) && (decide (lo ≤ hi) && decide (hi ≤ n)))) σ) := by
  refine call_of T_steam_Range_ends e_steam_Range_ends rfl ?_
  by_cases h1 : 0 ≤ lo <;> by_cases h2 : lo ≤ hi <;> by_cases h3 : hi ≤ n <;> simp [-List.length_flatMap, -List.map_take, eF, h1, h2, h3]
theorem C_Bounds {t : List Rw} (ht : tabOk t = true) {i : Nat} {r : Rw} (hi : t[i]? = some r) {m lo hi' : Int} (hm : 0 ≤ m ∧ m ≤ 1000000) (h1 : 0 ≤ lo) (h2 : lo ≤ hi') (h3 : hi' ≤ 4000 * m) :
    lim T (.call false i_steam_Bounds [.lst t.length (t.flatMap Rw.enc), .int .i64 i, .int .i64 m, .agg [.int .i64 lo, .int .i64 hi'], .agg [.int .i64 0, .int .i64 0]] σ) =
      some (.val (.tup [.agg [.int .i64 (fsteam r ⟨m, lo, 0, 0⟩), .int .i64 (fsteam r ⟨m, hi', 0, 0⟩)], .agg [.int .i64 0, .int .i64 0], .int .i64 0]) σ) := by
  refine call_of T_steam_Bounds e_steam_Bounds rfl ?_
  have hl : t.length ≤ 20 := by
    simp only [tabOk, Bool.and_eq_true] at ht
    have := inn_iff.1 ht.1; omega
  have hil : i < t.length := (List.getElem?_eq_some_iff.1 hi).1
  have k1 := fun σ => C_tabValid (σ := σ) (t := t) (by omega)
  have k2 := fun σ => C_has (σ := σ) (t := t) (n := i) (by omega)
  have k4 := fun σ => C_tat (σ := σ) hi
  obtain ⟨r1, r2⟩ := row_in ht hi
  have hin : inn i 0 ((t.length : Int) - 1) = true := inn_iff.2 (by omega)
  have him : inn m 0 1000000 = true := inn_iff.2 hm
  rw [hin] at k2
  rw [ht] at k1
  have x1 : Stm.valid ⟨m, lo, 0, 0⟩ = true := by simp only [Stm.valid, Bool.and_eq_true, inn_iff]; omega
  have x2 : Stm.valid ⟨m, hi', 0, 0⟩ = true := by simp only [Stm.valid, Bool.and_eq_true, inn_iff]; omega
  have k5 := fun σ => C_of' (σ := σ) r1 r2 x1
  have k6 := fun σ => C_of' (σ := σ) r1 r2 x2
  have w1 := w64 (n := 4000 * m) (by omega)
  have w2 := w64 (n := 10000 * m) (by omega)
  have g1 : (0 : Int) ≤ 10000 * m := by omega
  have e1 : parts r ⟨m, lo, 0, 0⟩ = parts r ⟨m, lo, 0, 0⟩ := rfl
  have p0 : ∀ x : Stm, x.s = 0 → 0 ≤ (wat r x).1 → held r x = 0 := by
    intro x hx hw
    have := Int.mul_nonneg hw r2.1
    unfold held; rw [hx]; omega
  have q1 : 0 ≤ (wat r ⟨m, lo, 0, 0⟩).1 := by
    have := fsteam_b (x := ⟨m, lo, 0, 0⟩) r1 hm.1
    unfold wat; split
    · exact hm.1
    · split
      · simp
      · simp only at this ⊢; omega
  have q2 : 0 ≤ (wat r ⟨m, hi', 0, 0⟩).1 := by
    have := fsteam_b (x := ⟨m, hi', 0, 0⟩) r1 hm.1
    unfold wat; split
    · exact hm.1
    · split
      · simp
      · simp only at this ⊢; omega
  simp only [Stm.enc, Rw.enc, parts, p0 _ rfl q1, p0 _ rfl q2] at k4 k5 k6
  simp [-List.length_flatMap, -List.map_take, eF, k1, k2, C_swithin, him, w1, w2, C_ends, h1, h2, h3, g1, k4, k5, k6]
end Go.Proofs.YtehandllpmlcoaaGreat
