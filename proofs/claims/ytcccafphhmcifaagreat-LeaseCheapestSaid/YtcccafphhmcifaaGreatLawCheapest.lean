/-
  The law LeaseCheapest answers true.
-/
import Derived.Test.YtcccafphhmcifaaGreatLawDrills
set_option linter.unusedVariables false
set_option linter.unusedSimpArgs false
namespace Go.Proofs.YtcccafphhmcifaaGreat
open Go Go.Abs Go.Lease
variable {σ : Stack}

theorem L_few60 {d1 d2 d4 : D} (s1 : d1.calm = d1) (s2 : d2.calm = d2) (s4 : d4.calm = d4) {t : List (List Rn)} (ht : t.length ≤ 12) : ∀ (m i : Nat), i + m = t.length →
    WL T [1, 2, 3, 4, 9] false f_law11_LeaseCheapest_l8 [(1, d1), (2, d2), (3, .lst t.length (t.flatMap ladE)), (4, d4), (9, .int .i64 i)] [[], []]
      (fun x e σ' => σ' = [[], []] ∧ if allB (t.drop i) (fun l => decide (l.length ≤ 60)) then x = .exit 0 ∧ get e 1 = d1 ∧ get e 2 = d2 ∧ get e 3 = .lst t.length (t.flatMap ladE) ∧ get e 4 = d4 else x = .ret ∧ get e 8 = .bool true)
  | 0, i, hi => by
    refine WL_step e_law11_LeaseCheapest_l8 ?_
    have h1 : ¬ i < t.length := by omega
    have h2 : t.drop i = [] := List.drop_eq_nil_of_le (by omega)
    rw [h2]
    simp [-List.length_flatMap, -List.map_take, e_law11_LeaseCheapest_r0, e_law11_LeaseCheapest_r1, e_law11_LeaseCheapest_r2, e_law11_LeaseCheapest_r3, e_law11_LeaseCheapest_r4, e_law11_LeaseCheapest_r5, e_law11_LeaseCheapest_r6, e_law11_LeaseCheapest_r7, e_law11_LeaseCheapest_r9, e_law11_LeaseCheapest_r10, e_law11_LeaseCheapest_r11, e_law11_LeaseCheapest_r12, e_law11_LeaseCheapest_r13, e_law11_LeaseCheapest_r14, e_law11_LeaseCheapest_r15, e_law11_LeaseCheapest_r16, e_law11_LeaseCheapest_r17, e_law11_LeaseCheapest_r18, h1, allB_nil, s1, s2, s4]
  | m + 1, i, hi => by
    refine WL_step e_law11_LeaseCheapest_l8 ?_
    have h1 : i < t.length := by omega
    obtain ⟨l, hx⟩ : ∃ x, t[i]? = some x := ⟨_, List.getElem?_eq_getElem h1⟩
    have a1 := ladE_at hx
    have w1 := wnext h1 (by omega)
    have ih := L_few60 s1 s2 s4 ht m (i + 1) (by omega)
    rw [dropS hx, allB_cons]
    generalize allB (t.drop (i + 1)) (fun l => decide (l.length ≤ 60)) = G at *
    by_cases hc : l.length ≤ 60
    · have hc' : ¬ (60 : Int) < l.length := by omega
      simp [-List.length_flatMap, -List.map_take, e_law11_LeaseCheapest_r0, e_law11_LeaseCheapest_r1, e_law11_LeaseCheapest_r2, e_law11_LeaseCheapest_r3, e_law11_LeaseCheapest_r4, e_law11_LeaseCheapest_r5, e_law11_LeaseCheapest_r6, e_law11_LeaseCheapest_r7, e_law11_LeaseCheapest_r9, e_law11_LeaseCheapest_r10, e_law11_LeaseCheapest_r11, e_law11_LeaseCheapest_r12, e_law11_LeaseCheapest_r13, e_law11_LeaseCheapest_r14, e_law11_LeaseCheapest_r15, e_law11_LeaseCheapest_r16, e_law11_LeaseCheapest_r17, e_law11_LeaseCheapest_r18, h1, a1, w1, hc', s1, s2, s4]
      exact WL.to ih (by simp) rfl fun x e σ hh => by simpa [hc] using hh
    · have hc' : (60 : Int) < l.length := by omega
      simp [-List.length_flatMap, -List.map_take, e_law11_LeaseCheapest_r0, e_law11_LeaseCheapest_r1, e_law11_LeaseCheapest_r2, e_law11_LeaseCheapest_r3, e_law11_LeaseCheapest_r4, e_law11_LeaseCheapest_r5, e_law11_LeaseCheapest_r6, e_law11_LeaseCheapest_r7, e_law11_LeaseCheapest_r9, e_law11_LeaseCheapest_r10, e_law11_LeaseCheapest_r11, e_law11_LeaseCheapest_r12, e_law11_LeaseCheapest_r13, e_law11_LeaseCheapest_r14, e_law11_LeaseCheapest_r15, e_law11_LeaseCheapest_r16, e_law11_LeaseCheapest_r17, e_law11_LeaseCheapest_r18, h1, a1, w1, hc', hc, C_wakes]
theorem law_Cheapest {p : Pg} {os ks : List Int} {t : List (List Rn)} : lim T (.call false i_law11_LeaseCheapest [.agg [.int .i64 p.start, .int .i64 p.gain, .int .i64 p.keep, .int .i64 p.most, .lst p.l.length (p.l.flatMap Yr.enc)], .lst os.length (os.flatMap intE), .lst ks.length (ks.flatMap intE), .lst t.length (t.flatMap ladE)] [[]]) = some (.val (.bool true) [[]]) := by
  refine call_of T_law11_LeaseCheapest e_law11_LeaseCheapest rfl ?_
  by_cases b1 : os.length ≤ 12
  rotate_left
  · have h1 : (12 : Int) < os.length := by omega
    simp [-List.length_flatMap, -List.map_take, e_law11_LeaseCheapest_r0, e_law11_LeaseCheapest_r1, e_law11_LeaseCheapest_r2, e_law11_LeaseCheapest_r3, e_law11_LeaseCheapest_r4, e_law11_LeaseCheapest_r5, e_law11_LeaseCheapest_r6, e_law11_LeaseCheapest_r7, e_law11_LeaseCheapest_r9, e_law11_LeaseCheapest_r10, e_law11_LeaseCheapest_r11, e_law11_LeaseCheapest_r12, e_law11_LeaseCheapest_r13, e_law11_LeaseCheapest_r14, e_law11_LeaseCheapest_r15, e_law11_LeaseCheapest_r16, e_law11_LeaseCheapest_r17, e_law11_LeaseCheapest_r18, h1, C_wakes]
  have h1 : ¬ (12 : Int) < os.length := by omega
  by_cases b2 : ks.length ≤ 12
  rotate_left
  · have h2 : (12 : Int) < ks.length := by omega
    simp [-List.length_flatMap, -List.map_take, e_law11_LeaseCheapest_r0, e_law11_LeaseCheapest_r1, e_law11_LeaseCheapest_r2, e_law11_LeaseCheapest_r3, e_law11_LeaseCheapest_r4, e_law11_LeaseCheapest_r5, e_law11_LeaseCheapest_r6, e_law11_LeaseCheapest_r7, e_law11_LeaseCheapest_r9, e_law11_LeaseCheapest_r10, e_law11_LeaseCheapest_r11, e_law11_LeaseCheapest_r12, e_law11_LeaseCheapest_r13, e_law11_LeaseCheapest_r14, e_law11_LeaseCheapest_r15, e_law11_LeaseCheapest_r16, e_law11_LeaseCheapest_r17, e_law11_LeaseCheapest_r18, h1, h2, C_wakes]
  have h2 : ¬ (12 : Int) < ks.length := by omega
  by_cases b3 : t.length ≤ 12
  rotate_left
  · have h3 : (12 : Int) < t.length := by omega
    simp [-List.length_flatMap, -List.map_take, e_law11_LeaseCheapest_r0, e_law11_LeaseCheapest_r1, e_law11_LeaseCheapest_r2, e_law11_LeaseCheapest_r3, e_law11_LeaseCheapest_r4, e_law11_LeaseCheapest_r5, e_law11_LeaseCheapest_r6, e_law11_LeaseCheapest_r7, e_law11_LeaseCheapest_r9, e_law11_LeaseCheapest_r10, e_law11_LeaseCheapest_r11, e_law11_LeaseCheapest_r12, e_law11_LeaseCheapest_r13, e_law11_LeaseCheapest_r14, e_law11_LeaseCheapest_r15, e_law11_LeaseCheapest_r16, e_law11_LeaseCheapest_r17, e_law11_LeaseCheapest_r18, h1, h2, h3, C_wakes]
  have h3 : ¬ (12 : Int) < t.length := by omega
  have hR := fun σ => C_RPg (σ := σ) (p := p)
  cases c1 : pgOk p
  · simp [-List.length_flatMap, -List.map_take, e_law11_LeaseCheapest_r0, e_law11_LeaseCheapest_r1, e_law11_LeaseCheapest_r2, e_law11_LeaseCheapest_r3, e_law11_LeaseCheapest_r4, e_law11_LeaseCheapest_r5, e_law11_LeaseCheapest_r6, e_law11_LeaseCheapest_r7, e_law11_LeaseCheapest_r9, e_law11_LeaseCheapest_r10, e_law11_LeaseCheapest_r11, e_law11_LeaseCheapest_r12, e_law11_LeaseCheapest_r13, e_law11_LeaseCheapest_r14, e_law11_LeaseCheapest_r15, e_law11_LeaseCheapest_r16, e_law11_LeaseCheapest_r17, e_law11_LeaseCheapest_r18, h1, h2, h3, hR, c1, C_wakes]
  have hp1 := pgOk_iff.1 c1
  simp [-List.length_flatMap, -List.map_take, e_law11_LeaseCheapest_r0, e_law11_LeaseCheapest_r1, e_law11_LeaseCheapest_r2, e_law11_LeaseCheapest_r3, e_law11_LeaseCheapest_r4, e_law11_LeaseCheapest_r5, e_law11_LeaseCheapest_r6, e_law11_LeaseCheapest_r7, e_law11_LeaseCheapest_r9, e_law11_LeaseCheapest_r10, e_law11_LeaseCheapest_r11, e_law11_LeaseCheapest_r12, e_law11_LeaseCheapest_r13, e_law11_LeaseCheapest_r14, e_law11_LeaseCheapest_r15, e_law11_LeaseCheapest_r16, e_law11_LeaseCheapest_r17, e_law11_LeaseCheapest_r18, h1, h2, h3, hR, c1]
  refine WL.to (L_few60 (d1 := .lst os.length (os.flatMap intE)) (d2 := .lst ks.length (ks.flatMap intE)) (d4 := .cref p.enc) (by simp) (by simp) (by simp) b3 t.length 0 (by omega)) (by simp) rfl ?_
  rintro x e σ' ⟨rfl, hh⟩
  rw [List.drop_zero] at hh
  cases c2 : allB t (fun l => decide (l.length ≤ 60))
  · simp only [c2, Bool.false_eq_true, if_false] at hh
    obtain ⟨rfl, g8⟩ := hh
    simp [g8]
  simp only [c2, if_true] at hh
  obtain ⟨rfl, g1, g2, g3, g4⟩ := hh
  have hfew : ∀ l ∈ t, l.length ≤ 100000 := fun l hl => by have := allB_iff.1 c2 l hl; simp only [decide_eq_true_eq] at this; omega
  have hP := fun σ (hσ : σ ≠ []) => C_Pg (σ := σ) (p := p) (by omega) hσ
  have hD := fun σ (hσ : σ ≠ []) => C_Drill (σ := σ) (p := p) (by omega) hσ
  have hL1 := fun σ (hσ : σ ≠ []) => C_list (σ := σ) (l := os) (by omega) hσ
  have hL2 := fun σ (hσ : σ ≠ []) => C_list (σ := σ) (l := ks) (by omega) hσ
  have hO1 := fun σ (hσ : σ ≠ []) => C_Outlook (σ := σ) (p := p) (by omega) (ks := os) (by omega) hσ
  have hO2 := fun σ (hσ : σ ≠ []) => C_Outlook (σ := σ) (p := p) (by omega) (ks := ks) (by omega) hσ
  have hT := fun σ (hσ : σ ≠ []) => C_tabL (σ := σ) (t := t) (by omega) hfew hσ
  have hV := fun σ (hσ : σ ≠ []) => C_ProveDrill (σ := σ) (p := p) (by omega) (ks := ks) (by omega) (t := t) (by omega) hfew hσ
  unfold drillD at hD
  unfold outD at hO1 hO2
  simp only [c1, if_true, never] at hD
  simp only [c1, if_true] at hO1 hO2
  rw [c1, Bool.true_and] at hV
  have hle := leastF_le (p := p) p.l p.start
  simp only [never] at hle
  by_cases h7 : leastF p p.l p.start = 1000000000000
  · simp only [h7, if_true] at hD
    -- no plan follows
    have hno : planOk p os = true → folIs p p.l os p.start = false := fun h => by
      cases hf : folIs p p.l os p.start
      · rfl
      · have h1 := planOk_iff.1 h
        have := fol_le hp1.2.2.2.1.1 p.l os p.start h1.1 h1.2 hf
        have h3 := folCost_bd (p := p) p.l os p.start (fun k hk => by have := h1.2 k hk; omega) hp1.2.2.2.2.2
        omega
    cases c3 : planOk p os
    · simp only [c3, Bool.false_eq_true, if_false] at hO1
      simp [-List.length_flatMap, -List.map_take, e_law11_LeaseCheapest_r9, e_law11_LeaseCheapest_r10, e_law11_LeaseCheapest_r11, e_law11_LeaseCheapest_r12, e_law11_LeaseCheapest_r13, g1, g2, g3, g4, hP, hD, hL1, hO1, C_wakes]
    · simp only [c3, hno c3, Bool.false_eq_true, if_true, if_false] at hO1
      simp [-List.length_flatMap, -List.map_take, e_law11_LeaseCheapest_r9, e_law11_LeaseCheapest_r10, e_law11_LeaseCheapest_r11, e_law11_LeaseCheapest_r12, e_law11_LeaseCheapest_r13, g1, g2, g3, g4, hP, hD, hL1, hO1, C_wakes]
  have hlt : leastF p p.l p.start < never := by simp only [never]; omega
  simp only [h7, if_false] at hD
  have hd := drillL_ok hp1.2.2.2.1.1 p.l p.start hp1.2.2.2.2.2 hlt
  have hlen := lads_len (p := p) p.l
  have hB := fun σ (hσ : σ ≠ []) => C_back (σ := σ) (t := lads p p.l) (by omega) (lads_few c1) hσ
  have hTo := fun σ (hσ : σ ≠ []) => C_tabL (σ := σ) (t := lads p p.l) (by omega) (lads_few c1) hσ
  have hLo := fun σ (hσ : σ ≠ []) => C_list (σ := σ) (l := drillL p p.l p.start) (by omega) hσ
  have hOo := fun σ (hσ : σ ≠ []) => C_Outlook (σ := σ) (p := p) (by omega) (ks := drillL p p.l p.start) (by omega) hσ
  have hVo := fun σ (hσ : σ ≠ []) => C_ProveDrill (σ := σ) (p := p) (by omega) (ks := drillL p p.l p.start) (by omega) (t := lads p p.l) (by omega) (lads_few c1) hσ
  have hpo : planOk p (drillL p p.l p.start) = true := planOk_iff.2 ⟨hd.1, hd.2.1⟩
  unfold outD at hOo
  simp only [c1, hpo, hd.2.2.1, hd.2.2.2, if_true] at hOo
  rw [hlen] at hB hTo
  rw [hd.1] at hLo hOo
  rw [hd.1, hlen, drill_shows c1 hlt, c1] at hVo
  -- other plans cost no less
  have hother : planOk p os = true → folIs p p.l os p.start = true → ¬ folCost p p.l os p.start < leastF p p.l p.start := fun h hf => by
    have h1 := planOk_iff.1 h
    have := fol_le hp1.2.2.2.1.1 p.l os p.start h1.1 h1.2 hf
    omega
  have hshow : shows p ks t = true → planOk p ks = true ∧ folIs p p.l ks p.start = true ∧ folCost p p.l ks p.start = leastF p p.l p.start := fun h => by
    have h1 := shows_cost c1 h
    simp only [shows, Bool.and_eq_true] at h
    exact ⟨h.1, h1.1, h1.2⟩
  generalize drillL p p.l p.start = dl at *
  generalize lads p p.l = ld at *
  generalize leastF p p.l p.start = n at *
  cases c3 : planOk p os
  · simp only [c3, Bool.false_eq_true, if_false] at hO1
    cases c5 : shows p ks t
    · rw [c5] at hV
      cases c6 : planOk p ks
      · simp only [c6, Bool.false_eq_true, if_false] at hO2
        simp [-List.length_flatMap, -List.map_take, e_law11_LeaseCheapest_r9, e_law11_LeaseCheapest_r10, e_law11_LeaseCheapest_r11, e_law11_LeaseCheapest_r12, e_law11_LeaseCheapest_r14, e_law11_LeaseCheapest_r15, e_law11_LeaseCheapest_r17, e_law11_LeaseCheapest_r18, g1, g2, g3, g4, hP, hD, hL1, hL2, hO1, hO2, hLo, hOo, hB, hTo, hVo, hT, hV, h7, C_wakes]
      · cases c7 : folIs p p.l ks p.start
        · simp only [c6, c7, Bool.false_eq_true, if_true, if_false] at hO2
          simp [-List.length_flatMap, -List.map_take, e_law11_LeaseCheapest_r9, e_law11_LeaseCheapest_r10, e_law11_LeaseCheapest_r11, e_law11_LeaseCheapest_r12, e_law11_LeaseCheapest_r14, e_law11_LeaseCheapest_r15, e_law11_LeaseCheapest_r17, e_law11_LeaseCheapest_r18, g1, g2, g3, g4, hP, hD, hL1, hL2, hO1, hO2, hLo, hOo, hB, hTo, hVo, hT, hV, h7, C_wakes]
        · simp only [c6, c7, if_true] at hO2
          simp [-List.length_flatMap, -List.map_take, e_law11_LeaseCheapest_r9, e_law11_LeaseCheapest_r10, e_law11_LeaseCheapest_r11, e_law11_LeaseCheapest_r12, e_law11_LeaseCheapest_r14, e_law11_LeaseCheapest_r15, e_law11_LeaseCheapest_r17, e_law11_LeaseCheapest_r18, g1, g2, g3, g4, hP, hD, hL1, hL2, hO1, hO2, hLo, hOo, hB, hTo, hVo, hT, hV, h7, C_wakes]
    · rw [c5] at hV
      have hs := hshow c5
      simp only [hs.1, hs.2.1, hs.2.2, if_true] at hO2
      simp [-List.length_flatMap, -List.map_take, e_law11_LeaseCheapest_r9, e_law11_LeaseCheapest_r10, e_law11_LeaseCheapest_r11, e_law11_LeaseCheapest_r12, e_law11_LeaseCheapest_r14, e_law11_LeaseCheapest_r15, e_law11_LeaseCheapest_r17, e_law11_LeaseCheapest_r18, g1, g2, g3, g4, hP, hD, hL1, hL2, hO1, hO2, hLo, hOo, hB, hTo, hVo, hT, hV, h7, C_wakes]
  · cases c4 : folIs p p.l os p.start
    · simp only [c3, c4, Bool.false_eq_true, if_true, if_false] at hO1
      cases c5 : shows p ks t
      · rw [c5] at hV
        cases c6 : planOk p ks
        · simp only [c6, Bool.false_eq_true, if_false] at hO2
          simp [-List.length_flatMap, -List.map_take, e_law11_LeaseCheapest_r9, e_law11_LeaseCheapest_r10, e_law11_LeaseCheapest_r11, e_law11_LeaseCheapest_r12, e_law11_LeaseCheapest_r14, e_law11_LeaseCheapest_r15, e_law11_LeaseCheapest_r17, e_law11_LeaseCheapest_r18, g1, g2, g3, g4, hP, hD, hL1, hL2, hO1, hO2, hLo, hOo, hB, hTo, hVo, hT, hV, h7, C_wakes]
        · cases c7 : folIs p p.l ks p.start
          · simp only [c6, c7, Bool.false_eq_true, if_true, if_false] at hO2
            simp [-List.length_flatMap, -List.map_take, e_law11_LeaseCheapest_r9, e_law11_LeaseCheapest_r10, e_law11_LeaseCheapest_r11, e_law11_LeaseCheapest_r12, e_law11_LeaseCheapest_r14, e_law11_LeaseCheapest_r15, e_law11_LeaseCheapest_r17, e_law11_LeaseCheapest_r18, g1, g2, g3, g4, hP, hD, hL1, hL2, hO1, hO2, hLo, hOo, hB, hTo, hVo, hT, hV, h7, C_wakes]
          · simp only [c6, c7, if_true] at hO2
            simp [-List.length_flatMap, -List.map_take, e_law11_LeaseCheapest_r9, e_law11_LeaseCheapest_r10, e_law11_LeaseCheapest_r11, e_law11_LeaseCheapest_r12, e_law11_LeaseCheapest_r14, e_law11_LeaseCheapest_r15, e_law11_LeaseCheapest_r17, e_law11_LeaseCheapest_r18, g1, g2, g3, g4, hP, hD, hL1, hL2, hO1, hO2, hLo, hOo, hB, hTo, hVo, hT, hV, h7, C_wakes]
      · rw [c5] at hV
        have hs := hshow c5
        simp only [hs.1, hs.2.1, hs.2.2, if_true] at hO2
        simp [-List.length_flatMap, -List.map_take, e_law11_LeaseCheapest_r9, e_law11_LeaseCheapest_r10, e_law11_LeaseCheapest_r11, e_law11_LeaseCheapest_r12, e_law11_LeaseCheapest_r14, e_law11_LeaseCheapest_r15, e_law11_LeaseCheapest_r17, e_law11_LeaseCheapest_r18, g1, g2, g3, g4, hP, hD, hL1, hL2, hO1, hO2, hLo, hOo, hB, hTo, hVo, hT, hV, h7, C_wakes]
    · have hno := hother c3 c4
      simp only [c3, c4, if_true] at hO1
      cases c5 : shows p ks t
      · rw [c5] at hV
        cases c6 : planOk p ks
        · simp only [c6, Bool.false_eq_true, if_false] at hO2
          simp [-List.length_flatMap, -List.map_take, e_law11_LeaseCheapest_r9, e_law11_LeaseCheapest_r10, e_law11_LeaseCheapest_r11, e_law11_LeaseCheapest_r12, e_law11_LeaseCheapest_r14, e_law11_LeaseCheapest_r15, e_law11_LeaseCheapest_r17, e_law11_LeaseCheapest_r18, g1, g2, g3, g4, hP, hD, hL1, hL2, hO1, hO2, hLo, hOo, hB, hTo, hVo, hT, hV, h7, C_wakes, hno]
        · cases c7 : folIs p p.l ks p.start
          · simp only [c6, c7, Bool.false_eq_true, if_true, if_false] at hO2
            simp [-List.length_flatMap, -List.map_take, e_law11_LeaseCheapest_r9, e_law11_LeaseCheapest_r10, e_law11_LeaseCheapest_r11, e_law11_LeaseCheapest_r12, e_law11_LeaseCheapest_r14, e_law11_LeaseCheapest_r15, e_law11_LeaseCheapest_r17, e_law11_LeaseCheapest_r18, g1, g2, g3, g4, hP, hD, hL1, hL2, hO1, hO2, hLo, hOo, hB, hTo, hVo, hT, hV, h7, C_wakes, hno]
          · simp only [c6, c7, if_true] at hO2
            simp [-List.length_flatMap, -List.map_take, e_law11_LeaseCheapest_r9, e_law11_LeaseCheapest_r10, e_law11_LeaseCheapest_r11, e_law11_LeaseCheapest_r12, e_law11_LeaseCheapest_r14, e_law11_LeaseCheapest_r15, e_law11_LeaseCheapest_r17, e_law11_LeaseCheapest_r18, g1, g2, g3, g4, hP, hD, hL1, hL2, hO1, hO2, hLo, hOo, hB, hTo, hVo, hT, hV, h7, C_wakes, hno]
      · rw [c5] at hV
        have hs := hshow c5
        simp only [hs.1, hs.2.1, hs.2.2, if_true] at hO2
        simp [-List.length_flatMap, -List.map_take, e_law11_LeaseCheapest_r9, e_law11_LeaseCheapest_r10, e_law11_LeaseCheapest_r11, e_law11_LeaseCheapest_r12, e_law11_LeaseCheapest_r14, e_law11_LeaseCheapest_r15, e_law11_LeaseCheapest_r17, e_law11_LeaseCheapest_r18, g1, g2, g3, g4, hP, hD, hL1, hL2, hO1, hO2, hLo, hOo, hB, hTo, hVo, hT, hV, h7, C_wakes, hno]
theorem rows_i64 {ds : List D} (h : (Ty.int .i64).has ds) : ∃ x : Int, ds = intE x ∧ (-9223372036854775808 ≤ x ∧ x ≤ 9223372036854775807) := by
  obtain ⟨n, rfl, hw⟩ := h
  exact ⟨n, rfl, wf_i64 hw⟩
theorem rn_of {ds : List D} (h : (Ty.struct [.int .i64, .int .i64]).has ds) : ∃ x : Rn, ds = x.enc ∧ True := by
  obtain ⟨_, _, rfl, ⟨f, rfl, _⟩, _, _, rfl, ⟨t, rfl, _⟩, rfl⟩ := h
  exact ⟨⟨f, t⟩, rfl, trivial⟩
theorem lad_of {ds : List D} (h : (Ty.slice 2 (.struct [.int .i64, .int .i64])).has ds) : ∃ l : List Rn, ds = ladE l ∧ True := by
  obtain ⟨x, hx⟩ := slice_one h
  subst hx
  obtain ⟨l, rfl, _⟩ := rows_of (fun ds h => rn_of h) h
  exact ⟨l, rfl, trivial⟩
theorem go_LeaseCheapest (x0 x1 x2 x3 : D) (t0 : (Ty.struct [.int .i64, .int .i64, .int .i64, .int .i64, .slice 2 (.struct [.int .i64, .int .i64])]).hasV x0) (t1 : (Ty.slice 1 (.int .i64)).hasV x1) (t2 : (Ty.slice 1 (.int .i64)).hasV x2) (t3 : (Ty.slice 1 (.slice 2 (.struct [.int .i64, .int .i64]))).hasV x3) :
    ∃ σ', lim T (.call false i_law11_LeaseCheapest [x0, x1, x2, x3] [[]]) = some (.val (.bool true) σ') := by
  obtain ⟨p, rfl⟩ := pg_of t0
  obtain ⟨os, rfl, _, _⟩ := rows_of (fun ds h => rows_i64 h) t1
  obtain ⟨ks, rfl, _, _⟩ := rows_of (fun ds h => rows_i64 h) t2
  obtain ⟨t, rfl, _, _⟩ := rows_of (fun ds h => lad_of h) t3
  exact ⟨_, law_Cheapest⟩
end Go.Proofs.YtcccafphhmcifaaGreat
