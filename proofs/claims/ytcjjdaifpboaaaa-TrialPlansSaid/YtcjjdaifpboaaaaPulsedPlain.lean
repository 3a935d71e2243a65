/-
  Plain law of pulses: with a division that fits, it still fits, and what was sure stays so.
-/
import Derived.Test.YtcjjdaifpboaaaaSurvSpec
set_option linter.unusedVariables false
set_option linter.unusedSimpArgs false
namespace Go.Trial
open Go Go.Abs

/-- Does a division fit? -/
def Fit (s : Surv) (p : Nat → Int) : Prop := ∀ x ∈ s.l, (sure s x = true → p x.f.toNat = p x.t.toNat) ∧ (agin s x = true → p x.f.toNat ≠ p x.t.toNat)
theorem fit_group {s : Surv} {p : Nat → Int} (h : Fit s p) (z : Nat) : p (Gr s z) = p z := by
  refine rep_parts (f := p) (fun e he => ?_) _ z
  simp only [edges, List.mem_map, List.mem_filter] at he
  obtain ⟨x, ⟨hx, hs⟩, rfl⟩ := he
  exact (h x hx).1 hs
theorem fit_same {s : Surv} {p : Nat → Int} (h : Fit s p) {a b : Nat} (hab : Gr s a = Gr s b) : p a = p b := by
  rw [← fit_group h a, ← fit_group h b, hab]
theorem clash_neg {s : Surv} : clash s < 0 ↔ ∀ x ∈ s.l, clashT s x = false := by
  unfold clash
  rw [idxOf_neg, List.any_eq_false]
  simp
theorem fit_clash {s : Surv} {p : Nat → Int} (h : Fit s p) : clash s < 0 := by
  rw [clash_neg]
  intro x hx
  cases hc : clashT s x
  · rfl
  · simp only [clashT, Bool.and_eq_true, decide_eq_true_eq] at hc
    exact absurd (fit_same h hc.2) ((h x hx).2 hc.1)
/-- Without a clash the groups fit. -/
theorem groups_fit {s : Surv} (h : Sv s) (hc : clash s < 0) : Fit s fun z => (Gr s z : Int) := by
  intro x hx
  refine ⟨fun hs => ?_, fun ha => ?_⟩
  · have := Gr_edge h hx hs
    dsimp only
    omega
  · have := clash_neg.1 hc x hx
    simp only [clashT, ha, Bool.true_and, decide_eq_false_iff_not] at this
    dsimp only
    omega
/-- One survey with more observations. -/
structure More (s s' : Surv) : Prop where
  w : s'.w = s.w
  lv : s'.lv = s.lv
  l : ∀ x ∈ s.l, x ∈ s'.l
theorem more_sure {s s' : Surv} (h : More s s') (x : Seen) : sure s' x = sure s x := by unfold sure; rw [h.lv]
theorem more_agin {s s' : Surv} (h : More s s') (x : Seen) : agin s' x = agin s x := by unfold agin; rw [h.lv]
theorem more_group {s s' : Surv} (hm : More s s') (h' : Sv s') (z : Nat) : Gr s' (Gr s z) = Gr s' z := by
  refine rep_parts (f := Gr s') (fun e he => ?_) _ z
  simp only [edges, List.mem_map, List.mem_filter] at he
  obtain ⟨x, ⟨hx, hs⟩, rfl⟩ := he
  exact Gr_edge h' (hm.l x hx) (by rw [more_sure hm]; exact hs)
theorem more_same {s s' : Surv} (hm : More s s') (h' : Sv s') {a b : Nat} (hab : Gr s a = Gr s b) : Gr s' a = Gr s' b := by
  rw [← more_group hm h' a, ← more_group hm h' b, hab]
/-- What was Yes or No stays so. -/
theorem more_rel {s s' : Surv} (hm : More s s') (h' : Sv s') {p : Nat → Int} (hf : Fit s' p) {a b : Nat} (hr : relOf s a b ≠ 1) : relOf s' a b = relOf s a b := by
  have hfs : Fit s p := fun x hx => by
    have := hf x (hm.l x hx)
    rw [more_sure hm, more_agin hm] at this
    exact this
  unfold relOf at hr ⊢
  by_cases h1 : Gr s a = Gr s b
  · rw [if_pos h1, if_pos (more_same hm h' h1)]
  · rw [if_neg h1] at hr ⊢
    cases hA : anyB s.l (against s a b)
    · rw [hA] at hr
      simp at hr
    · rw [anyB_iff] at hA
      obtain ⟨x, hx, hax⟩ := hA
      simp only [against, Bool.and_eq_true, Bool.or_eq_true, decide_eq_true_eq] at hax
      obtain ⟨hg, hab⟩ := hax
      have hne := (hfs x hx).2 hg
      have h2 : Gr s' a ≠ Gr s' b := by
        intro he
        have e := fit_same hf he
        rcases hab with ⟨e1, e2⟩ | ⟨e1, e2⟩
        · have := fit_same hfs e1; have := fit_same hfs e2; omega
        · have := fit_same hfs e1; have := fit_same hfs e2; omega
      have h3 : anyB s'.l (against s' a b) = true := by
        rw [anyB_iff]
        refine ⟨x, hm.l x hx, ?_⟩
        simp only [against, Bool.and_eq_true, Bool.or_eq_true, decide_eq_true_eq, more_agin hm]
        refine ⟨hg, ?_⟩
        rcases hab with ⟨e1, e2⟩ | ⟨e1, e2⟩
        · exact .inl ⟨more_same hm h' e1, more_same hm h' e2⟩
        · exact .inr ⟨more_same hm h' e1, more_same hm h' e2⟩
      rw [if_neg h2, h3]
/-- Where one well was pulsed, its relation to another one is known. -/
theorem known_rel {s : Surv} (h : Sv s) {K a : Nat} (hx : K ≠ a → ∃ x ∈ s.l, x.f.toNat = K ∧ x.t.toNat = a ∧ (sure s x = true ∨ agin s x = true)) : relOf s K a ≠ 1 := by
  unfold relOf
  by_cases h1 : Gr s K = Gr s a
  · rw [if_pos h1]; decide
  · rw [if_neg h1]
    have hne : K ≠ a := fun e => h1 (by rw [e])
    obtain ⟨x, hx, e1, e2, hs⟩ := hx hne
    rcases hs with hs | hs
    · have := Gr_edge h hx hs
      rw [e1, e2] at this
      exact absurd this h1
    · have h3 : anyB s.l (against s K a) = true := by
        rw [anyB_iff]
        refine ⟨x, hx, ?_⟩
        simp only [against, Bool.and_eq_true, Bool.or_eq_true, decide_eq_true_eq]
        exact ⟨hs, .inl ⟨by rw [e1], by rw [e2]⟩⟩
      rw [h3]
      decide
end Go.Trial
