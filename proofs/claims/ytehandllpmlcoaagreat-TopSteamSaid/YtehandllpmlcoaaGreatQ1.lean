/-
  Flashes: what becomes steam.
-/
import Derived.Test.YtehandllpmlcoaaGreatR18
set_option linter.unusedVariables false
set_option linter.unusedSimpArgs false
namespace Go.Proofs.YtehandllpmlcoaaGreat
open Go Go.Abs Go.Rock
variable {σ : Stack}

/-- A stream. -/
structure Stm where
  m : Int
  h : Int
  s : Int
  g : Int
@[simp] def Stm.enc (x : Stm) : List D := [.int .i64 x.m, .int .i64 x.h, .int .i64 x.s, .int .i64 x.g]
def Stm.valid (x : Stm) : Bool := inn x.m 0 1000000 && (inn x.h 0 (4000 * x.m) && (inn x.s 0 (10000 * x.m) && inn x.g 0 1000000000))
/-- What of it becomes steam at a level. -/
def fsteam (r : Rw) (x : Stm) : Int := if x.h - x.m * r.l ≤ 0 then 0 else if x.m * r.v ≤ x.h then x.m else (x.h - x.m * r.l) / (r.v - r.l)
/-- It rises with the heat. -/
theorem fsteam_mono {r : Rw} {m a b s t g k : Int} (hr : r.l < r.v) (hm : 0 ≤ m) (hab : a ≤ b) : fsteam r ⟨m, a, s, g⟩ ≤ fsteam r ⟨m, b, t, k⟩ := by
  have hd : 0 < r.v - r.l := by omega
  have hmv : m * r.v = m * r.l + m * (r.v - r.l) := by rw [← Int.mul_add]; congr 1; omega
  unfold fsteam
  simp only
  have key : ∀ x, ¬ m * r.v ≤ x → (x - m * r.l) / (r.v - r.l) ≤ m := by
    intro x hx
    exact Int.ediv_le_of_le_mul hd (by omega)
  by_cases c1 : a - m * r.l ≤ 0
  · rw [if_pos c1]
    by_cases c2 : b - m * r.l ≤ 0
    · rw [if_pos c2]; omega
    · rw [if_neg c2]
      by_cases c3 : m * r.v ≤ b
      · rw [if_pos c3]; exact hm
      · rw [if_neg c3]; exact Int.ediv_nonneg (by omega) (by omega)
  · have c2 : ¬ b - m * r.l ≤ 0 := by omega
    rw [if_neg c1, if_neg c2]
    by_cases c3 : m * r.v ≤ b
    · rw [if_pos c3]
      by_cases c4 : m * r.v ≤ a
      · rw [if_pos c4]; omega
      · rw [if_neg c4]; exact key _ c4
    · rw [if_neg c3, if_neg (show ¬ m * r.v ≤ a by omega)]
      exact Int.ediv_le_ediv hd (by omega)
theorem C_fsteam {r : Rw} {x : Stm} (hr : 0 ≤ r.l ∧ r.l < r.v ∧ r.v ≤ 4000) (hm : 0 ≤ x.m ∧ x.m ≤ 1000000) (hh : 0 ≤ x.h ∧ x.h ≤ 4000000000) :
    lim T (.call false i_steam_flash_steam [.agg r.enc, .agg x.enc] σ) = some (.val (.int .i64 (fsteam r x)) σ) := by
  refine call_of T_steam_flash_steam e_steam_flash_steam rfl ?_
  have b1 := mul_n hm.1 hm.2 hr.1 (show r.l ≤ 4000 by omega)
  have b2 := mul_n hm.1 hm.2 (show 0 ≤ r.v by omega) hr.2.2
  have w1 := w64 (n := x.m * r.l) (by omega)
  have w2 := w64 (n := x.h - x.m * r.l) (by omega)
  have w3 := w64 (n := x.m * r.v) (by omega)
  have w4 := w64 (n := r.v - r.l) (by omega)
  have hd : ¬ r.v - r.l = 0 := by omega
  unfold fsteam
  by_cases c1 : x.h - x.m * r.l ≤ 0
  · simp [-List.length_flatMap, -List.map_take, eF, w1, w2, w3, w4, c1]
  · by_cases c2 : x.m * r.v ≤ x.h
    · simp [-List.length_flatMap, -List.map_take, eF, w1, w2, w3, w4, c1, c2]
    · have t1 := Int.tdiv_eq_ediv_of_nonneg (b := r.v - r.l) (show 0 ≤ x.h - x.m * r.l by omega)
      have q1 := Int.ediv_nonneg (a := x.h - x.m * r.l) (b := r.v - r.l) (by omega) (by omega)
      have q2 := Int.ediv_le_self (b := r.v - r.l) (show 0 ≤ x.h - x.m * r.l by omega)
      have w5 := w64 (n := (x.h - x.m * r.l) / (r.v - r.l)) (by omega)
      simp [-List.length_flatMap, -List.map_take, eF, w1, w2, w3, w4, c1, c2, hd, t1, w5]
end Go.Proofs.YtehandllpmlcoaaGreat
