/-
  A survey of pulses that are felt within parts.
-/
import Derived.Test.YtehandllpmlcoaaU2
import Derived.Test.YtehandllpmlcoaaPartsPlain
set_option linter.unusedVariables false
set_option linter.unusedSimpArgs false
namespace Go.Proofs.Ytehandllpmlcoaa
open Go Go.Abs Go.Trial Srv

/-- What was felt: within parts, and surely. -/
structure Felt (n : Nat) (ps : List Int) (x : Seen) : Prop where
  f : 0 ≤ x.f ∧ x.f < n
  t : 0 ≤ x.t ∧ x.t < n
  ne : x.f ≠ x.t
  d : 1 ≤ x.d.lo ∧ x.d.lo ≤ 2000000000 ∧ x.d.hi = x.d.lo
  p : pAt ps x.f = pAt ps x.t
theorem felt_fault {n : Nat} {ps : List Int} {l : List Seen} (hn : 1 ≤ n ∧ n ≤ 8) (hl : l.length ≤ 60) (h : ∀ x ∈ l, Felt n ps x) : sFault ⟨n, 1, l⟩ = 0 := by
  unfold sFault
  rw [if_neg (by simp only; omega), if_pos, if_pos]
  · refine allB_iff.2 fun x hx => ?_
    obtain ⟨h1, h2, h3, h4, h5⟩ := h x hx
    simp only [seenOk, Bool.and_eq_true, inn_iff, Bool.not_eq_true', decide_eq_false_iff_not, Rg.drops, Rg.right, decide_eq_true_eq]
    omega
  · simp only [Bool.and_eq_true, inn_iff]; omega
theorem felt_fit {n : Nat} {ps : List Int} {l : List Seen} (h : ∀ x ∈ l, Felt n ps x) : allB l (fitOk ⟨n, 1, l⟩ ps) = true := by
  refine allB_iff.2 fun x hx => ?_
  obtain ⟨h1, h2, h3, h4, h5⟩ := h x hx
  have ha : agin ⟨n, 1, l⟩ x = false := by simp only [agin, decide_eq_false_iff_not]; omega
  simp [fitOk, ha, h5]
theorem felt_rel {n : Nat} {ps : List Int} {l : List Seen} (h : ∀ x ∈ l, Felt n ps x) (a b : Nat) : relOf ⟨n, 1, l⟩ a b ≠ 0 ∧ (relOf ⟨n, 1, l⟩ a b = 2 → pAt ps a = pAt ps b) := by
  have hag : anyB l (against ⟨n, 1, l⟩ a b) = false := by
    rw [Bool.eq_false_iff]
    intro hh
    obtain ⟨x, hx, hh⟩ := anyB_iff.1 hh
    obtain ⟨h1, h2, h3, h4, h5⟩ := h x hx
    have ha : agin ⟨n, 1, l⟩ x = false := by simp only [agin, decide_eq_false_iff_not]; omega
    simp [against, ha] at hh
  unfold relOf
  simp only [hag]
  by_cases hG : Gr ⟨n, 1, l⟩ a = Gr ⟨n, 1, l⟩ b
  · rw [if_pos hG]
    refine ⟨by decide, fun _ => ?_⟩
    have key : ∀ z : Nat, pAt ps (Gr ⟨n, 1, l⟩ z : Nat) = pAt ps z := fun z => by
      have := rep_parts (f := fun z : Nat => pAt ps z) (es := edges ⟨n, 1, l⟩) (fun e he => by
        simp only [edges, List.mem_map, List.mem_filter] at he
        obtain ⟨x, ⟨hx, _⟩, rfl⟩ := he
        obtain ⟨h1, h2, h3, h4, h5⟩ := h x hx
        simp only [edge]
        rw [Int.toNat_of_nonneg h1.1, Int.toNat_of_nonneg h2.1]
        exact h5) (Surv.w ⟨n, 1, l⟩).toNat z
      exact this
    rw [← key a, hG, key b]
  · rw [if_neg hG]
    exact ⟨by simp, by simp⟩
theorem felt_clash {n : Nat} {ps : List Int} {l : List Seen} (h : ∀ x ∈ l, Felt n ps x) : ¬ 0 ≤ clash ⟨n, 1, l⟩ := by
  unfold clash
  have : idxOf (clashT ⟨n, 1, l⟩) l < 0 := by
    rw [idxOf_neg, Bool.eq_false_iff]
    intro hh
    obtain ⟨x, hx, hh⟩ := List.any_eq_true.1 hh
    obtain ⟨h1, h2, h3, h4, h5⟩ := h x hx
    have ha : agin ⟨n, 1, l⟩ x = false := by simp only [agin, decide_eq_false_iff_not]; omega
    simp [clashT, ha] at hh
  simp only
  omega
end Go.Proofs.Ytehandllpmlcoaa
