/-
  The law TrialCapacities answers true.
-/
import Derived.Test.YtcjjdaifpboaaaaH9
set_option linter.unusedVariables false
set_option linter.unusedSimpArgs false
namespace Go.Proofs.Ytcjjdaifpboaaaa
open Go Go.Abs Go.Trial
variable {σ : Stack}

theorem last_iff {f : Int → Bool} (h : anti f) {r : Int} (hr : Last f r) {q : Int} (h0 : 0 ≤ q) (h1 : q ≤ 1000) : f q = decide (q ≤ r) := by
  have h2 := hr.lo; have h3 := hr.hi
  by_cases hq : q ≤ r
  · rw [h q r h0 hq h3 (hr.at_ (by omega))]; simp [hq]
  · cases hf : f q
    · simp [hq]
    · have := h (r + 1) q (by omega) (by omega) h1 hf
      rw [hr.next (by omega)] at this; cases this
theorem last_mono {f g : Int → Bool} (hf : anti f) (hg : anti g) (hfg : ∀ q, f q = true → g q = true) {r s : Int} (hr : Last f r) (hs : Last g s) : r ≤ s := by
  have h2 := hr.lo; have h3 := hr.hi; have h4 := hs.lo; have h5 := hs.hi
  by_cases h : r ≤ s
  · exact h
  · have h1 := hfg r (hr.at_ (by omega))
    have := hg (s + 1) r (by omega) (by omega) h3 h1
    rw [hs.next (by omega)] at this; cases this
theorem law_Capacities {t : Test} {n k f : Int} (hf : 0 ≤ f ∧ f ≤ 65535) : lim T (.call false i_law04_TrialCapacities [.agg [.int .i64 t.a.lo, .int .i64 t.a.hi, .int .i64 t.b.lo, .int .i64 t.b.hi, .int .i64 t.c.lo, .int .i64 t.c.hi, .lst t.st.length (t.st.flatMap Step.enc)], .int .i64 n, .int .i64 k, .int .u16 f] [[]]) = some (.val (.bool true) [[]]) := by
  refine call_of T_law04_TrialCapacities e_law04_TrialCapacities rfl ?_
  by_cases hl : t.st.length ≤ 20
  rotate_left
  · have h1 : (20 : Int) < t.st.length := by omega
    simp [-List.length_flatMap, -List.map_take, e_law04_TrialCapacities_r0, e_law04_TrialCapacities_r1, e_law04_TrialCapacities_r2, e_law04_TrialCapacities_r3, e_law04_TrialCapacities_r4, e_law04_TrialCapacities_r5, e_law04_TrialCapacities_r6, e_law04_TrialCapacities_r7, e_law04_TrialCapacities_r8, e_law04_TrialCapacities_r9, e_law04_TrialCapacities_r10, e_law04_TrialCapacities_r11, e_law04_TrialCapacities_r12, e_law04_TrialCapacities_r13, e_law04_TrialCapacities_r14, e_law04_TrialCapacities_r15, e_law04_TrialCapacities_r16, e_law04_TrialCapacities_r17, e_law04_TrialCapacities_r18, h1, C_wakes]
  have h1 : ¬ (20 : Int) < t.st.length := by omega
  have hT := fun σ (hσ : σ ≠ []) => @C_Test σ t (by omega) hσ
  have hC := fun σ (hσ : σ ≠ []) n => @C_capacity σ t (by omega) n hσ
  have hk := fun σ d => @C_asked σ t (by omega) d 2
  by_cases h0 : fault t = 0
  rotate_left
  · simp [-List.length_flatMap, -List.map_take, e_law04_TrialCapacities_r0, e_law04_TrialCapacities_r1, e_law04_TrialCapacities_r2, e_law04_TrialCapacities_r3, e_law04_TrialCapacities_r4, e_law04_TrialCapacities_r5, e_law04_TrialCapacities_r6, e_law04_TrialCapacities_r7, e_law04_TrialCapacities_r8, e_law04_TrialCapacities_r9, e_law04_TrialCapacities_r10, e_law04_TrialCapacities_r11, e_law04_TrialCapacities_r12, e_law04_TrialCapacities_r13, e_law04_TrialCapacities_r14, e_law04_TrialCapacities_r15, e_law04_TrialCapacities_r16, e_law04_TrialCapacities_r17, e_law04_TrialCapacities_r18, h1, hk, h0, askedOf, C_In, C_wakes]
  have h := fault_tv h0
  cases hq : inn n (-2000000000) 2000000000
  · simp [-List.length_flatMap, -List.map_take, e_law04_TrialCapacities_r0, e_law04_TrialCapacities_r1, e_law04_TrialCapacities_r2, e_law04_TrialCapacities_r3, e_law04_TrialCapacities_r4, e_law04_TrialCapacities_r5, e_law04_TrialCapacities_r6, e_law04_TrialCapacities_r7, e_law04_TrialCapacities_r8, e_law04_TrialCapacities_r9, e_law04_TrialCapacities_r10, e_law04_TrialCapacities_r11, e_law04_TrialCapacities_r12, e_law04_TrialCapacities_r13, e_law04_TrialCapacities_r14, e_law04_TrialCapacities_r15, e_law04_TrialCapacities_r16, e_law04_TrialCapacities_r17, e_law04_TrialCapacities_r18, h1, hk, h0, askedOf, C_In, hq, C_wakes]
  cases hs : (sets t).isEmpty
  rotate_left
  · simp [-List.length_flatMap, -List.map_take, e_law04_TrialCapacities_r0, e_law04_TrialCapacities_r1, e_law04_TrialCapacities_r2, e_law04_TrialCapacities_r3, e_law04_TrialCapacities_r4, e_law04_TrialCapacities_r5, e_law04_TrialCapacities_r6, e_law04_TrialCapacities_r7, e_law04_TrialCapacities_r8, e_law04_TrialCapacities_r9, e_law04_TrialCapacities_r10, e_law04_TrialCapacities_r11, e_law04_TrialCapacities_r12, e_law04_TrialCapacities_r13, e_law04_TrialCapacities_r14, e_law04_TrialCapacities_r15, e_law04_TrialCapacities_r16, e_law04_TrialCapacities_r17, e_law04_TrialCapacities_r18, h1, hk, h0, askedOf, C_In, hq, hs, C_wakes]
  have hne : sets t ≠ [] := fun hh => by rw [hh] at hs; cases hs
  have kh : Last (keepHi t n) (capHi t n) := bs_last (keepHi_anti h hne n) 10 (-1) 1000 (by omega) (by omega) (by omega) (by omega) (by omega) (by omega)
  have kl : Last (keepLo t n) (capLo t n) := bs_last (keepLo_anti h hne n) 10 (-1) 1000 (by omega) (by omega) (by omega) (by omega) (by omega) (by omega)
  have kh' : Last (keepHi t k) (capHi t k) := bs_last (keepHi_anti h hne k) 10 (-1) 1000 (by omega) (by omega) (by omega) (by omega) (by omega) (by omega)
  have kl' : Last (keepLo t k) (capLo t k) := bs_last (keepLo_anti h hne k) 10 (-1) 1000 (by omega) (by omega) (by omega) (by omega) (by omega) (by omega)
  have hSM := last_mono (keepHi_anti h hne n) (keepLo_anti h hne n) (fun q hq => cap_ref h hne n hq) kh kl
  have c1 := hC [[], []] (by simp) n
  simp only [capD, h0, hq, hs, if_true, Bool.false_eq_true, if_false] at c1
  have hm : (f.tmod 1001) = f % 1001 := Int.tmod_eq_emod_of_nonneg hf.1
  have hm1 : 0 ≤ f % 1001 := by omega
  have hm2 : f % 1001 ≤ 1000 := by omega
  have wf := w64 (n := f) (by omega)
  have wm := w64 (n := f % 1001) (by omega)
  have hd := fun σ (hσ : σ ≠ []) q => @C_drawP σ t (by omega) q hσ
  have i1 := last_iff (keepHi_anti h hne n) kh hm1 hm2
  have i2 := last_iff (keepLo_anti h hne n) kl hm1 hm2
  have hin : inn (f % 1001) 0 1000 = true := inn_iff.2 ⟨hm1, hm2⟩
  generalize f % 1001 = q at *
  have d1 := hd [[], []] (by simp) q
  simp only [drawP, h0, hin, hs, if_true, Bool.false_eq_true, if_false] at d1
  simp only [keepHi] at i1
  simp only [keepLo] at i2
  have a1 := kh.lo; have a2 := kh.hi; have a3 := kl.lo; have a4 := kl.hi
  have nx : capHi t n < 1000 → ¬ (dOf (capHi t n + 1) (sets t)).hi ≤ n := fun hh => by have := kh.next hh; simpa [keepHi] using this
  have wn := w64 (n := capHi t n + 1) (by omega)
  have b1 : ¬ capHi t n < -1 := by omega
  have b2 : ¬ capLo t n < capHi t n := by omega
  have b3 : ¬ 1000 < capLo t n := by omega
  have hin2 : capHi t n < 1000 → inn (capHi t n + 1) 0 1000 = true := fun hh => inn_iff.2 ⟨by omega, by omega⟩
  have mono1 : n ≤ k → capHi t n ≤ capHi t k := fun hh => last_mono (keepHi_anti h hne n) (keepHi_anti h hne k) (fun q hq => by simp only [keepHi, decide_eq_true_eq] at hq ⊢; omega) kh kh'
  have mono2 : n ≤ k → capLo t n ≤ capLo t k := fun hh => last_mono (keepLo_anti h hne n) (keepLo_anti h hne k) (fun q hq => by simp only [keepLo, decide_eq_true_eq] at hq ⊢; omega) kl kl'
  have d2 := hd [[], []] (by simp) (capHi t n + 1)
  have c2 := hC [[], []] (by simp) k
  simp only [drawP, h0, hs, if_true, Bool.false_eq_true, if_false] at d2
  simp only [capD, h0, hs, if_true, Bool.false_eq_true, if_false] at c2
  have hin3 : n ≤ k → k ≤ 2000000000 → inn k (-2000000000) 2000000000 = true := fun h1 h2 => inn_iff.2 ⟨by have := (inn_iff.1 hq).1; omega, h2⟩
  generalize capHi t n = A at *
  generalize capLo t n = B at *
  generalize capHi t k = A' at *
  generalize capLo t k = B' at *
  by_cases g1 : A < 1000
  · have hin2 := hin2 g1
    have nx := nx g1
    rw [hin2] at d2
    simp only [if_true] at d2
    by_cases g2 : k < n
    · simp [-List.length_flatMap, -List.map_take, e_law04_TrialCapacities_r0, e_law04_TrialCapacities_r1, e_law04_TrialCapacities_r2, e_law04_TrialCapacities_r3, e_law04_TrialCapacities_r4, e_law04_TrialCapacities_r5, e_law04_TrialCapacities_r6, e_law04_TrialCapacities_r7, e_law04_TrialCapacities_r8, e_law04_TrialCapacities_r9, e_law04_TrialCapacities_r10, e_law04_TrialCapacities_r11, e_law04_TrialCapacities_r12, e_law04_TrialCapacities_r13, e_law04_TrialCapacities_r14, e_law04_TrialCapacities_r15, e_law04_TrialCapacities_r16, e_law04_TrialCapacities_r17, e_law04_TrialCapacities_r18, h1, hk, h0, askedOf, C_In, hq, hs, hT, c1, b1, b2, b3, wf, hm, wm, d1, i1, i2, g1, wn, d2, nx, g2, C_wakes]
    · by_cases g3 : 2000000000 < k
      · simp [-List.length_flatMap, -List.map_take, e_law04_TrialCapacities_r0, e_law04_TrialCapacities_r1, e_law04_TrialCapacities_r2, e_law04_TrialCapacities_r3, e_law04_TrialCapacities_r4, e_law04_TrialCapacities_r5, e_law04_TrialCapacities_r6, e_law04_TrialCapacities_r7, e_law04_TrialCapacities_r8, e_law04_TrialCapacities_r9, e_law04_TrialCapacities_r10, e_law04_TrialCapacities_r11, e_law04_TrialCapacities_r12, e_law04_TrialCapacities_r13, e_law04_TrialCapacities_r14, e_law04_TrialCapacities_r15, e_law04_TrialCapacities_r16, e_law04_TrialCapacities_r17, e_law04_TrialCapacities_r18, h1, hk, h0, askedOf, C_In, hq, hs, hT, c1, b1, b2, b3, wf, hm, wm, d1, i1, i2, g1, wn, d2, nx, g2, g3, C_wakes]
      · rw [hin3 (by omega) (by omega)] at c2
        have m1 := mono1 (by omega)
        have m2 := mono2 (by omega)
        simp [-List.length_flatMap, -List.map_take, e_law04_TrialCapacities_r0, e_law04_TrialCapacities_r1, e_law04_TrialCapacities_r2, e_law04_TrialCapacities_r3, e_law04_TrialCapacities_r4, e_law04_TrialCapacities_r5, e_law04_TrialCapacities_r6, e_law04_TrialCapacities_r7, e_law04_TrialCapacities_r8, e_law04_TrialCapacities_r9, e_law04_TrialCapacities_r10, e_law04_TrialCapacities_r11, e_law04_TrialCapacities_r12, e_law04_TrialCapacities_r13, e_law04_TrialCapacities_r14, e_law04_TrialCapacities_r15, e_law04_TrialCapacities_r16, e_law04_TrialCapacities_r17, e_law04_TrialCapacities_r18, h1, hk, h0, askedOf, C_In, hq, hs, hT, c1, b1, b2, b3, wf, hm, wm, d1, i1, i2, g1, wn, d2, nx, g2, g3, c2, m1, m2, C_wakes]
  · by_cases g2 : k < n
    · simp [-List.length_flatMap, -List.map_take, e_law04_TrialCapacities_r0, e_law04_TrialCapacities_r1, e_law04_TrialCapacities_r2, e_law04_TrialCapacities_r3, e_law04_TrialCapacities_r4, e_law04_TrialCapacities_r5, e_law04_TrialCapacities_r6, e_law04_TrialCapacities_r7, e_law04_TrialCapacities_r8, e_law04_TrialCapacities_r9, e_law04_TrialCapacities_r10, e_law04_TrialCapacities_r11, e_law04_TrialCapacities_r12, e_law04_TrialCapacities_r13, e_law04_TrialCapacities_r14, e_law04_TrialCapacities_r15, e_law04_TrialCapacities_r16, e_law04_TrialCapacities_r17, e_law04_TrialCapacities_r18, h1, hk, h0, askedOf, C_In, hq, hs, hT, c1, b1, b2, b3, wf, hm, wm, d1, i1, i2, g1, g2, C_wakes]
    · by_cases g3 : 2000000000 < k
      · simp [-List.length_flatMap, -List.map_take, e_law04_TrialCapacities_r0, e_law04_TrialCapacities_r1, e_law04_TrialCapacities_r2, e_law04_TrialCapacities_r3, e_law04_TrialCapacities_r4, e_law04_TrialCapacities_r5, e_law04_TrialCapacities_r6, e_law04_TrialCapacities_r7, e_law04_TrialCapacities_r8, e_law04_TrialCapacities_r9, e_law04_TrialCapacities_r10, e_law04_TrialCapacities_r11, e_law04_TrialCapacities_r12, e_law04_TrialCapacities_r13, e_law04_TrialCapacities_r14, e_law04_TrialCapacities_r15, e_law04_TrialCapacities_r16, e_law04_TrialCapacities_r17, e_law04_TrialCapacities_r18, h1, hk, h0, askedOf, C_In, hq, hs, hT, c1, b1, b2, b3, wf, hm, wm, d1, i1, i2, g1, g2, g3, C_wakes]
      · rw [hin3 (by omega) (by omega)] at c2
        have m1 := mono1 (by omega)
        have m2 := mono2 (by omega)
        simp [-List.length_flatMap, -List.map_take, e_law04_TrialCapacities_r0, e_law04_TrialCapacities_r1, e_law04_TrialCapacities_r2, e_law04_TrialCapacities_r3, e_law04_TrialCapacities_r4, e_law04_TrialCapacities_r5, e_law04_TrialCapacities_r6, e_law04_TrialCapacities_r7, e_law04_TrialCapacities_r8, e_law04_TrialCapacities_r9, e_law04_TrialCapacities_r10, e_law04_TrialCapacities_r11, e_law04_TrialCapacities_r12, e_law04_TrialCapacities_r13, e_law04_TrialCapacities_r14, e_law04_TrialCapacities_r15, e_law04_TrialCapacities_r16, e_law04_TrialCapacities_r17, e_law04_TrialCapacities_r18, h1, hk, h0, askedOf, C_In, hq, hs, hT, c1, b1, b2, b3, wf, hm, wm, d1, i1, i2, g1, g2, g3, c2, m1, m2, C_wakes]
theorem go_TrialCapacities (x0 x1 x2 x3 : D) (t0 : tyTest.hasV x0) (t1 : (Ty.int .i64).hasV x1) (t2 : (Ty.int .i64).hasV x2) (t3 : (Ty.int .u16).hasV x3) :
    ∃ σ', lim T (.call false i_law04_TrialCapacities [x0, x1, x2, x3] [[]]) = some (.val (.bool true) σ') := by
  obtain ⟨t, rfl⟩ := test_of t0
  obtain ⟨n, rfl, _⟩ := i64_of t1
  obtain ⟨k, rfl, _⟩ := i64_of t2
  obtain ⟨f, rfl, hf⟩ := u16_of t3
  exact ⟨_, law_Capacities hf⟩
end Go.Proofs.Ytcjjdaifpboaaaa
