/-
  Flashes: what the program makes of a stream.
-/
import Derived.Test.YtehandllpmlcoaaGreatQ2
set_option linter.unusedVariables false
set_option linter.unusedSimpArgs false
namespace Go.Proofs.YtehandllpmlcoaaGreat
open Go Go.Abs Go.Rock
variable {σ : Stack}

theorem fsteam_b {r : Rw} {x : Stm} (hr : 0 ≤ r.l ∧ r.l < r.v ∧ r.v ≤ 4000) (hm : 0 ≤ x.m) : 0 ≤ fsteam r x ∧ fsteam r x ≤ x.m ∧ (fsteam r x ≠ 0 → fsteam r x ≠ x.m → 0 ≤ x.h - fsteam r x * r.v + x.m * r.v) := by
  have hmv : x.m * r.v = x.m * r.l + x.m * (r.v - r.l) := by rw [← Int.mul_add]; congr 1; omega
  have hml := Int.mul_nonneg hm hr.1
  have key : ¬ x.h - x.m * r.l ≤ 0 → ¬ x.m * r.v ≤ x.h → 0 ≤ (x.h - x.m * r.l) / (r.v - r.l) ∧ (x.h - x.m * r.l) / (r.v - r.l) ≤ x.m := fun h1 h2 => ⟨Int.ediv_nonneg (by omega) (by omega), Int.ediv_le_of_le_mul (by omega) (by omega)⟩
  have h2 : 0 ≤ fsteam r x ∧ fsteam r x ≤ x.m := by
    unfold fsteam
    by_cases c1 : x.h - x.m * r.l ≤ 0
    · rw [if_pos c1]; omega
    · rw [if_neg c1]
      by_cases c2 : x.m * r.v ≤ x.h
      · rw [if_pos c2]; omega
      · rw [if_neg c2]; exact key c1 c2
  refine ⟨h2.1, h2.2, fun h3 _ => ?_⟩
  have h4 := Int.mul_le_mul_of_nonneg_right h2.2 (show 0 ≤ r.v by omega)
  have h5 : ¬ x.h - x.m * r.l ≤ 0 := by
    intro hh; exact h3 (by unfold fsteam; rw [if_pos hh])
  omega
theorem C_of' {r : Rw} {x : Stm} (hr : 0 ≤ r.l ∧ r.l < r.v ∧ r.v ≤ 4000) (hs : 0 ≤ r.s ∧ r.s ≤ 2000) (hx : x.valid = true) :
    lim T (.call false i_steam_flash_of [.agg r.enc, .agg x.enc] σ) = some (.val (.agg (parts r x)) σ) := by
  refine call_of T_steam_flash_of e_steam_flash_of rfl ?_
  simp only [Stm.valid, Bool.and_eq_true, inn_iff] at hx
  obtain ⟨hm, hh, hsl, hg⟩ := hx
  have hF := fun σ => C_fsteam (σ := σ) hr hm ⟨hh.1, by omega⟩
  obtain ⟨f1, f2, f3⟩ := fsteam_b hr hm.1
  have b1 := mul_n f1 (show fsteam r x ≤ 1000000 by omega) (show 0 ≤ r.v by omega) hr.2.2
  have b2 := mul_n (show 0 ≤ x.m - fsteam r x by omega) (show x.m - fsteam r x ≤ 1000000 by omega) hs.1 hs.2
  have b3 := mul_n (show 0 ≤ x.m - fsteam r x by omega) (show x.m - fsteam r x ≤ 1000000 by omega) hr.1 (show r.l ≤ 4000 by omega)
  have b4 := mul_n hm.1 hm.2 hs.1 hs.2
  have b5 := mul_n hm.1 hm.2 hr.1 (show r.l ≤ 4000 by omega)
  simp only [Rw.enc, Stm.enc] at hF
  unfold parts held stmH watG stmG wat
  generalize fsteam r x = m at *
  have w1 := w64 (n := m * r.v) (by omega)
  have w2 := w64 (n := x.m - m) (by omega)
  have w3 := w64 (n := x.h - m * r.v) (by omega)
  have w4 := w64 (n := (x.m - m) * r.s) (by omega)
  have w5 := w64 (n := (x.m - m) * r.l) (by omega)
  have w6 := w64 (n := x.h - m * r.v - (x.m - m) * r.l) (by omega)
  have w7 := w64 (n := x.m * r.s) (by omega)
  have w8 := w64 (n := x.m * r.l) (by omega)
  have w9 := w64 (n := x.h - x.m * r.l) (by omega)
  have v1 := w64 (n := x.s - min x.s (x.m * r.s)) (by omega)
  have v2 := w64 (n := x.s - min x.s ((x.m - m) * r.s)) (by omega)
  have v3 := w64 (n := x.s) (by omega)
  have v4 : min x.s 0 = 0 := by omega
  by_cases c1 : m = 0
  · subst c1
    by_cases c2 : 0 < x.m
    · simp [-List.length_flatMap, -List.map_take, eF, hF, w7, w8, w9, v1, c2]
    · simp [-List.length_flatMap, -List.map_take, eF, hF, w7, w8, w9, v1, c2]
  · by_cases c2 : m = x.m
    · subst c2
      simp [-List.length_flatMap, -List.map_take, eF, hF, c1, v3, v4]
    · have c3 : 0 < x.m - m := by omega
      have c4 : m < x.m := by omega
      simp [-List.length_flatMap, -List.map_take, eF, hF, c1, c2, c3, c4, w1, w2, w3, w4, w5, w6, v2]
end Go.Proofs.YtehandllpmlcoaaGreat
