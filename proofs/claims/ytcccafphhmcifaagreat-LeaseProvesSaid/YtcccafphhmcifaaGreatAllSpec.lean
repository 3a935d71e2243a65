/-
  Layer 11 in plain Lean: dues tick by tick. No program in sight.
-/
import Derived.Test.YtcccafphhmcifaaGreatDueSpec
set_option linter.unusedVariables false
set_option linter.unusedSimpArgs false
namespace Go.Lease
open Go Go.Abs

@[simp] def u32E (n : Int) : List D := [.int .u32 n]
@[simp] def rowU (r : List Int) : List D := [.lst r.length (r.flatMap u32E)]
def nowL (n : Nat) (r : List Int) : List Int := (List.range n).map fun i => r.getD i 0
def zeroL (n : Nat) : List Int := List.replicate n 0
def subL (a b : List Int) : List Int := a.zipWith (· - ·) b
theorem mk_zero (n : Nat) : ((List.range n).flatMap fun _ => [D.int .i64 0]) = (zeroL n).flatMap intE := by
  induction n with
  | zero => rfl
  | succ n ih =>
    rw [List.range_succ, List.flatMap_append, ih]
    have : zeroL (n + 1) = zeroL n ++ [0] := by unfold zeroL; rw [List.replicate_succ']
    rw [this, List.flatMap_append]
    rfl
theorem nowL_len {n : Nat} {r : List Int} : (nowL n r).length = n := by simp [nowL]
theorem zeroL_len {n : Nat} : (zeroL n).length = n := by simp [zeroL]
theorem nowL_get {n i : Nat} {r : List Int} {x : Int} (hi : i < n) (hx : r[i]? = some x) : (nowL n r)[i]? = some x := by
  simp [nowL, hi, List.getD_eq_getElem?_getD, hx]
theorem nowL_bd {n : Nat} {r : List Int} {M : Int} (hM : 0 ≤ M) (h : ∀ x ∈ r, 0 ≤ x ∧ x ≤ M) : ∀ x ∈ nowL n r, 0 ≤ x ∧ x ≤ M := by
  intro x hx
  simp only [nowL, List.mem_map] at hx
  obtain ⟨i, _, rfl⟩ := hx
  rw [List.getD_eq_getElem?_getD]
  cases hi : r[i]? with
  | none => simp [hM]
  | some y => exact h y (List.mem_of_getElem? hi)
/-- What lies behind a row's end is nothing. -/
theorem nowL_mix {n i : Nat} {r : List Int} (hi : i = min n r.length) : (nowL n r).take i ++ (zeroL n).drop i = nowL n r := by
  apply List.ext_getElem
  · simp [nowL_len, zeroL_len]; omega
  · intro k h1 h2
    rw [nowL_len] at h2
    by_cases hk : k < i
    · rw [List.getElem_append_left (by simp [nowL_len]; omega)]
      simp
    · rw [List.getElem_append_right (by simp [nowL_len]; omega)]
      have h3 : r[k]? = none := List.getElem?_eq_none (by omega)
      simp [zeroL, nowL, List.getD_eq_getElem?_getD, h3]
theorem sum_zero (n : Nat) : sumI (zeroL n) = 0 := by
  induction n with
  | zero => rfl
  | succ n ih => simp only [zeroL, List.replicate_succ, sumI] at ih ⊢; omega
theorem nowL_sum {n i : Nat} {r : List Int} (hi : i = min n r.length) : sumI ((nowL n r).take i) = sumI (nowL n r) := by
  conv => rhs; rw [← nowL_mix hi, sumI_app]
  have : (zeroL n).drop i = zeroL (n - i) := by simp [zeroL]
  rw [this, sum_zero]
  omega
theorem both_bd {A B : Int} : ∀ {a b : List Int}, (∀ x ∈ a, 0 ≤ x ∧ x ≤ A) → (∀ x ∈ b, 0 ≤ x ∧ x ≤ B) → ∀ x ∈ bothI a b, 0 ≤ x ∧ x ≤ A + B
  | [], _, _, _, x, h => by simp [bothI] at h
  | _ :: _, [], _, _, x, h => by simp [bothI] at h
  | p :: a, q :: b, ha, hb, x, h => by
    simp only [bothI, List.zipWith_cons_cons, List.mem_cons] at h
    rcases h with rfl | h
    · have h1 := ha p (by simp)
      have h2 := hb q (by simp)
      omega
    · exact both_bd (fun y hy => ha y (by simp [hy])) (fun y hy => hb y (by simp [hy])) x h
theorem dot_zero : ∀ (n : Nat) (rs : List (List Int)) (h : Nat), dot (zeroL n) rs h = 0
  | 0, _, _ => by simp [zeroL, dot]
  | n + 1, [], _ => by simp [zeroL, List.replicate_succ, dot]
  | n + 1, r :: rs, h => by
    have ih := dot_zero n rs h
    simp only [zeroL, List.replicate_succ, dot] at ih ⊢
    omega
theorem dueL_zero {c : Cn} {n : Nat} : dueL c (zeroL n) = zeroL c.h.toNat := by
  unfold dueL
  simp only [dot_zero]
  apply List.ext_getElem
  · simp [zeroL]
  · intro i h1 h2; simp [zeroL]
theorem dueR_zero {c : Cn} {n : Nat} : dueR c (zeroL n) = 0 := by
  unfold dueR
  rw [dueL_zero, sum_zero, sum_zero]
  rfl
theorem dueL_get {c : Cn} {ms : List Int} {h : Nat} (hh : h < c.h.toNat) : (dueL c ms)[h]? = some (dot ms c.l h / 1000) := by
  simp [dueL, hh]
theorem dot_nonneg {c : Cn} {ms : List Int} (hc : cnOk c = true) (hm : ∀ n ∈ ms, 0 ≤ n ∧ n ≤ 1000000000000) (h : Nat) : 0 ≤ dot ms c.l h := (dot_bd (cnOk_iff.1 hc).2.2 hm).1
/-- No part is below nothing. -/
theorem parts_nonneg {c : Cn} {a b : List Int} (hc : cnOk c = true) (ha : massOk c a = true) (hb : massOk c b = true) : ∀ x ∈ subL (dueL c (bothI a b)) (dueL c a), 0 ≤ x := by
  intro x hx
  have ha1 := massOk_iff.1 ha
  have hb1 := massOk_iff.1 hb
  obtain ⟨h, hh⟩ := List.getElem?_of_mem hx
  have hl : h < c.h.toNat := by
    have := (List.getElem?_eq_some_iff.1 hh).1
    simp [subL, dueL_len] at this
    omega
  simp only [subL, List.getElem?_zipWith, dueL_get hl, dot_both a b c.l h ha1.1 hb1.1] at hh
  have := dot_nonneg hc hb1.2 h
  simp at hh
  omega
theorem sum_parts {a b : List Int} (h : a.length = b.length) : bothI b (subL a b) = a := by
  apply List.ext_getElem
  · simp [bothI, subL, h]
  · intro i h1 h2
    simp [bothI, subL]
    omega
theorem diff_le (f g : Nat → Int) (hf : ∀ h, 0 ≤ f h) (hg : ∀ h, 0 ≤ g h) : ∀ n, sumI ((List.range n).map fun h => (f h + g h) / 1000) ≤ sumI ((List.range n).map fun h => f h / 1000) + sumI ((List.range n).map fun h => g h / 1000) + n
  | 0 => by simp [sumI]
  | n + 1 => by
    have ih := diff_le f g hf hg n
    have h1 := hf n
    have h2 := hg n
    rw [List.range_succ, List.map_append, List.map_append, List.map_append, sumI_app, sumI_app, sumI_app]
    simp only [List.map_cons, List.map_nil, sumI]
    omega
/-- What is left in a tick is not less than one for each holder. -/
theorem left_ge {c : Cn} {a b : List Int} (hc : cnOk c = true) (ha : massOk c a = true) (hb : massOk c b = true) : -c.h ≤ dueR c (bothI a b) - dueR c a := by
  have hc1 := cnOk_iff.1 hc
  have ha1 := massOk_iff.1 ha
  have hb1 := massOk_iff.1 hb
  have h1 := diff_le (fun h => dot a c.l h) (fun h => dot b c.l h) (dot_nonneg hc ha1.2) (dot_nonneg hc hb1.2) c.h.toNat
  have h2 := dueR_nonneg hc hb
  have h3 : dueL c (bothI a b) = (List.range c.h.toNat).map fun h => (dot a c.l h + dot b c.l h) / 1000 := by
    unfold dueL
    simp only [dot_both a b c.l _ ha1.1 hb1.1]
  have h4 := sum_both a b (by omega)
  unfold dueR at h2 ⊢
  rw [h3, h4]
  unfold dueL at h2 ⊢
  omega
end Go.Lease
