/-
  Layer 11 in plain Lean: numbers in a range; rules, what is valid, the royalty. No program in sight.
-/
import Derived.Test.YtcccafphhmcifaaGreatBase2
set_option linter.unusedVariables false
set_option linter.unusedSimpArgs false
namespace Go.Lease
open Go Go.Abs

@[simp] def intE (n : Int) : List D := [.int .i64 n]
def inn (n lo hi : Int) : Bool := decide (lo ≤ n) && decide (n ≤ hi)
theorem inn_iff {n lo hi : Int} : inn n lo hi = true ↔ lo ≤ n ∧ n ≤ hi := by simp [inn]
theorem inn_no {n lo hi : Int} (h : ¬ (lo ≤ n ∧ n ≤ hi)) : inn n lo hi = false := by
  cases hh : inn n lo hi
  · rfl
  · exact absurd (inn_iff.1 hh) h
theorem dropS {α : Type} {l : List α} {i : Nat} {x : α} (hx : l[i]? = some x) : l.drop i = x :: l.drop (i + 1) := by
  obtain ⟨h, rfl⟩ := List.getElem?_eq_some_iff.1 hx
  exact List.drop_eq_getElem_cons h

/-! ### Rules -/

structure Gd where
  u : Int
  r : Int
@[simp] theorem Gd.eta (g : Gd) : Gd.mk g.u g.r = g := rfl
@[simp] def Gd.enc (g : Gd) : List D := [.int .i64 g.u, .int .i64 g.r]
structure Rl where
  least : Int
  l : List Gd
def gdOk (prev : Int) (g : Gd) : Bool := inn g.u 1 1000000000000 && (inn g.r 0 1000 && !decide (g.u ≤ prev))
def gdsOk : Int → List Gd → Bool
  | _, [] => true
  | prev, g :: l => gdOk prev g && gdsOk g.u l
def rlOk (r : Rl) : Bool := gdsOk 0 r.l && (inn r.least 0 1000000000000 && inn r.l.length 1 6)
theorem gdOk_iff {p : Int} {g : Gd} : gdOk p g = true ↔ (1 ≤ g.u ∧ g.u ≤ 1000000000000) ∧ (0 ≤ g.r ∧ g.r ≤ 1000) ∧ p < g.u := by
  simp only [gdOk, Bool.and_eq_true, inn_iff, Bool.not_eq_true', decide_eq_false_iff_not]
  omega
/-- As the code goes: the sum and where it stands. -/
def royP (kg : Int) : List Gd → Int → Int → Int
  | [], n, _ => n
  | g :: l, n, fr => royP kg l (n + max 0 ((if l = [] then kg else min g.u kg) - fr) * g.r) (max fr (if l = [] then kg else min g.u kg))
/-- As the document says it. -/
def royF (kg : Int) : List Gd → Int → Int
  | [], _ => 0
  | g :: l, fr => if l = [] ∨ kg ≤ g.u then (kg - fr) * g.r else (g.u - fr) * g.r + royF kg l g.u
theorem royP_done {kg : Int} : ∀ (l : List Gd) (n : Int), royP kg l n kg = n
  | [], n => rfl
  | g :: l, n => by
    have h1 : max 0 ((if l = [] then kg else min g.u kg) - kg) = 0 := by split <;> omega
    have h2 : max kg (if l = [] then kg else min g.u kg) = kg := by split <;> omega
    rw [royP, h1, h2, Int.zero_mul, Int.add_zero, royP_done l n]
theorem royP_eq {kg : Int} : ∀ (l : List Gd) (n fr : Int), fr ≤ kg → gdsOk fr l = true → royP kg l n fr = n + royF kg l fr
  | [], n, fr, _, _ => by simp [royP, royF]
  | g :: l, n, fr, h, hg => by
    simp only [gdsOk, Bool.and_eq_true] at hg
    have h1 := gdOk_iff.1 hg.1
    rw [royP, royF]
    by_cases hl : l = []
    · subst hl
      simp only [if_true, true_or, royP]
      rw [show max 0 (kg - fr) = kg - fr by omega]
    · rw [if_neg hl]
      by_cases hk : kg ≤ g.u
      · rw [if_pos (Or.inr hk), show min g.u kg = kg by omega, show max fr kg = kg by omega, show max 0 (kg - fr) = kg - fr by omega, royP_done]
      · rw [if_neg (by simp [hl, hk]), show min g.u kg = g.u by omega, show max fr g.u = g.u by omega, show max 0 (g.u - fr) = g.u - fr by omega, royP_eq l _ g.u (by omega) hg.2]
        omega
theorem mul1000 {a r : Int} (h0 : 0 ≤ a) (h : 0 ≤ r ∧ r ≤ 1000) : 0 ≤ a * r ∧ a * r ≤ 1000 * a := by
  constructor
  · exact Int.mul_nonneg h0 h.1
  · have := Int.mul_le_mul_of_nonneg_left h.2 h0
    omega
theorem royF_bd {kg : Int} : ∀ (l : List Gd) (fr : Int), fr ≤ kg → gdsOk fr l = true → 0 ≤ royF kg l fr ∧ royF kg l fr ≤ 1000 * (kg - fr)
  | [], fr, h, _ => by simp [royF]; omega
  | g :: l, fr, h, hg => by
    simp only [gdsOk, Bool.and_eq_true] at hg
    have h1 := gdOk_iff.1 hg.1
    rw [royF]
    split
    · have := mul1000 (a := kg - fr) (by omega) h1.2.1
      omega
    · rename_i hn
      simp only [not_or] at hn
      have h2 := mul1000 (a := g.u - fr) (by omega) h1.2.1
      have h3 := royF_bd (kg := kg) l g.u (by omega) hg.2
      omega
/-- With more kilograms there is no less. -/
theorem royF_mono {a b : Int} (hab : a ≤ b) : ∀ (l : List Gd) (fr : Int), fr ≤ a → gdsOk fr l = true → royF a l fr ≤ royF b l fr
  | [], fr, _, _ => by simp [royF]
  | g :: l, fr, h, hg => by
    simp only [gdsOk, Bool.and_eq_true] at hg
    have h1 := gdOk_iff.1 hg.1
    rw [royF, royF]
    by_cases hl : l = []
    · rw [if_pos (.inl hl), if_pos (.inl hl)]
      exact Int.mul_le_mul_of_nonneg_right (by omega) h1.2.1.1
    · by_cases ha : a ≤ g.u
      · rw [if_pos (.inr ha)]
        by_cases hb : b ≤ g.u
        · rw [if_pos (.inr hb)]
          exact Int.mul_le_mul_of_nonneg_right (by omega) h1.2.1.1
        · rw [if_neg (by simp [hl, hb])]
          have h2 := Int.mul_le_mul_of_nonneg_right (show a - fr ≤ g.u - fr by omega) h1.2.1.1
          have h3 := royF_bd l g.u (by omega : g.u ≤ b) hg.2
          omega
      · rw [if_neg (by simp [hl, ha]), if_neg (by simp [hl]; omega)]
        have := royF_mono hab l g.u (by omega) hg.2
        omega
def roy (r : Rl) (kg price : Int) : Int := max r.least (royF kg r.l 0 * price / 1000000)
end Go.Lease
