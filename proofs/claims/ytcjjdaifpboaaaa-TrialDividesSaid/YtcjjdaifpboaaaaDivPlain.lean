/-
  Layer 4, between wells, in plain Lean: divisions that fit.
-/
import Derived.Test.YtcjjdaifpboaaaaNearSpec
set_option linter.unusedVariables false
set_option linter.unusedSimpArgs false
namespace Go.Trial
open Go Go.Abs

/-- Does a division fit? -/
def Fit (s : Surv) (p : Nat → Int) : Prop := ∀ x ∈ s.l, (sure s x = true → p x.f.toNat = p x.t.toNat) ∧ (agin s x = true → p x.f.toNat ≠ p x.t.toNat)
theorem fit_group {s : Surv} {p : Nat → Int} (h : Fit s p) (z : Nat) : p (Gr s z) = p z := by
  refine rep_parts (f := p) (fun e he => ?_) _ z
  simp only [edges, List.mem_map, List.mem_filter] at he
  obtain ⟨x, ⟨hx, hs⟩, rfl⟩ := he
  exact (h x hx).1 hs
theorem fit_same {s : Surv} {p : Nat → Int} (h : Fit s p) {a b : Nat} (hab : Gr s a = Gr s b) : p a = p b := by
  rw [← fit_group h a, ← fit_group h b, hab]
theorem clash_neg {s : Surv} : clash s < 0 ↔ ∀ x ∈ s.l, clashT s x = false := by
  unfold clash
  rw [idxOf_neg, List.any_eq_false]
  simp
theorem fit_clash {s : Surv} {p : Nat → Int} (h : Fit s p) : clash s < 0 := by
  rw [clash_neg]
  intro x hx
  cases hc : clashT s x
  · rfl
  · simp only [clashT, Bool.and_eq_true, decide_eq_true_eq] at hc
    exact absurd (fit_same h hc.2) ((h x hx).2 hc.1)
/-- Without a clash the groups fit. -/
theorem groups_fit {s : Surv} (h : Sv s) (hc : clash s < 0) : Fit s fun z => (Gr s z : Int) := by
  intro x hx
  refine ⟨fun hs => ?_, fun ha => ?_⟩
  · have := Gr_edge h hx hs
    dsimp only
    omega
  · have := clash_neg.1 hc x hx
    simp only [clashT, ha, Bool.true_and, decide_eq_false_iff_not] at this
    dsimp only
    omega
theorem rel_yes {s : Surv} {a b : Nat} : relOf s a b = 2 ↔ Gr s a = Gr s b := by
  unfold relOf
  by_cases h : Gr s a = Gr s b
  · simp [h]
  · rw [if_neg h]
    split <;> simp [h]
theorem fit_yes {s : Surv} {p : Nat → Int} (h : Fit s p) {a b : Nat} (hr : relOf s a b = 2) : p a = p b := fit_same h (rel_yes.1 hr)
theorem fit_no {s : Surv} {p : Nat → Int} (h : Fit s p) {a b : Nat} (hr : relOf s a b = 0) : p a ≠ p b := by
  unfold relOf at hr
  split at hr
  · simp at hr
  split at hr
  case isFalse => simp at hr
  rename_i hA
  rw [anyB_iff] at hA
  obtain ⟨x, hx, hax⟩ := hA
  simp only [against, Bool.and_eq_true, Bool.or_eq_true, decide_eq_true_eq] at hax
  obtain ⟨hg, hab⟩ := hax
  have hne := (h x hx).2 hg
  rcases hab with ⟨e1, e2⟩ | ⟨e1, e2⟩
  · have := fit_same h e1; have := fit_same h e2; omega
  · have := fit_same h e1; have := fit_same h e2; omega
/-- Both groups as one part. -/
def oneF (s : Surv) (a b : Nat) : Lab := fun z => if Gr s z = Gr s b then Gr s a else Gr s z
theorem fit_one {s : Surv} (h : Sv s) (hc : clash s < 0) {a b : Nat} (hr : relOf s a b = 1) : Gr s a ≠ Gr s b ∧ Fit s fun z => (oneF s a b z : Int) := by
  unfold relOf at hr
  split at hr
  · simp at hr
  rename_i hab
  split at hr
  · simp at hr
  rename_i hA
  refine ⟨hab, fun x hx => ⟨fun hs => ?_, fun ha => ?_⟩⟩
  · have := Gr_edge h hx hs
    simp only [oneF, this]
  · have h1 := clash_neg.1 hc x hx
    simp only [clashT, ha, Bool.true_and, decide_eq_false_iff_not] at h1
    have h2 : ¬ ((Gr s x.f.toNat = Gr s a ∧ Gr s x.t.toNat = Gr s b) ∨ (Gr s x.f.toNat = Gr s b ∧ Gr s x.t.toNat = Gr s a)) := fun hh => hA (by
      rw [anyB_iff]
      exact ⟨x, hx, by simp only [against, ha, Bool.true_and, Bool.or_eq_true, Bool.and_eq_true, decide_eq_true_eq]; exact hh⟩)
    intro e
    have e : oneF s a b x.f.toNat = oneF s a b x.t.toNat := by dsimp only at e; omega
    simp only [oneF] at e
    by_cases c1 : Gr s x.f.toNat = Gr s b <;> by_cases c2 : Gr s x.t.toNat = Gr s b
    · exact h1 (c1.trans c2.symm)
    · rw [if_pos c1, if_neg c2] at e
      exact h2 (.inr ⟨c1, e.symm⟩)
    · rw [if_neg c1, if_pos c2] at e
      exact h2 (.inl ⟨e, c2⟩)
    · rw [if_neg c1, if_neg c2] at e
      exact h1 e
/-- Both groups as one part, so far. -/
def oneT (s : Surv) (a b i : Nat) : Lab := fun z => if z < i then oneF s a b z else Gr s z
theorem oneT_at {s : Surv} {a b i : Nat} : oneT s a b i i = Gr s i := by unfold oneT; rw [if_neg (by omega)]
theorem oneT_next {s : Surv} {a b i : Nat} : (fun z => if z = i then oneF s a b i else oneT s a b i z) = oneT s a b (i + 1) := by
  funext z
  unfold oneT
  by_cases h1 : z = i
  · subst h1; rw [if_pos rfl, if_pos (by omega)]
  · by_cases h2 : z < i
    · rw [if_neg h1, if_pos h2, if_pos (by omega)]
    · rw [if_neg h1, if_neg h2, if_neg (by omega)]
theorem oneT_keep {s : Surv} {a b i : Nat} (h : Gr s i ≠ Gr s b) : oneT s a b i = oneT s a b (i + 1) := by
  rw [← oneT_next]
  funext z
  by_cases h1 : z = i
  · subst h1; rw [if_pos rfl, oneT_at]; unfold oneF; rw [if_neg h]
  · rw [if_neg h1]
theorem oneT_zero {s : Surv} {a b : Nat} : oneT s a b 0 = Gr s := by funext z; unfold oneT; rw [if_neg (by omega)]
end Go.Trial
