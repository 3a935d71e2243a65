/-
  The law TrialGives answers true.
-/
import Derived.Test.YtcjjdaifpboaaaaH9
set_option linter.unusedVariables false
set_option linter.unusedSimpArgs false
namespace Go.Proofs.Ytcjjdaifpboaaaa
open Go Go.Abs Go.Trial
variable {σ : Stack}

theorem law_Gives {t : Test} {n : Int} : lim T (.call false i_law04_TrialGives [.agg [.int .i64 t.a.lo, .int .i64 t.a.hi, .int .i64 t.b.lo, .int .i64 t.b.hi, .int .i64 t.c.lo, .int .i64 t.c.hi, .lst t.st.length (t.st.flatMap Step.enc)], .int .i64 n] [[]]) = some (.val (.bool true) [[]]) := by
  refine call_of T_law04_TrialGives e_law04_TrialGives rfl ?_
  by_cases hl : t.st.length ≤ 20
  rotate_left
  · have h1 : (20 : Int) < t.st.length := by omega
    simp [-List.length_flatMap, -List.map_take, e_law04_TrialGives_r0, e_law04_TrialGives_r1, e_law04_TrialGives_r2, e_law04_TrialGives_r3, e_law04_TrialGives_r4, e_law04_TrialGives_r5, e_law04_TrialGives_r6, e_law04_TrialGives_r7, e_law04_TrialGives_r8, h1, C_wakes]
  have h1 : ¬ (20 : Int) < t.st.length := by omega
  have hT := fun σ (hσ : σ ≠ []) => @C_Test σ t (by omega) hσ
  have hF := fun σ => @C_Fault σ t (by omega)
  have hC := fun σ (hσ : σ ≠ []) => @C_capacity σ t (by omega) n hσ
  by_cases h0 : fault t = 0
  rotate_left
  · have hk := fun σ d => @C_asked σ t (by omega) d 2
    simp [-List.length_flatMap, -List.map_take, e_law04_TrialGives_r0, e_law04_TrialGives_r1, e_law04_TrialGives_r2, e_law04_TrialGives_r3, e_law04_TrialGives_r4, e_law04_TrialGives_r5, e_law04_TrialGives_r6, e_law04_TrialGives_r7, e_law04_TrialGives_r8, h1, hT, hF, hC, hk, h0, capD, askedOf, C_In, C_wakes]
  have h := fault_tv h0
  have hb := h.b
  have hc := h.c
  have hbw := h.bw
  have hcw := h.cw
  have w1 := w64 (n := t.b.hi - t.b.lo) (by omega)
  have w2 := w64 (n := t.b.hi - t.b.lo + 1) (by omega)
  have w3 := w64 (n := t.c.hi - t.c.lo) (by omega)
  have w4 := w64 (n := t.c.hi - t.c.lo + 1) (by omega)
  have hm1 : (t.b.hi - t.b.lo + 1) * (t.c.hi - t.c.lo + 1) ≤ 40 * 40 := Int.mul_le_mul (by omega) (by omega) (by omega) (by omega)
  have hm2 : 0 ≤ (t.b.hi - t.b.lo + 1) * (t.c.hi - t.c.lo + 1) := Int.mul_nonneg (by omega) (by omega)
  have w5 := w64 (n := (t.b.hi - t.b.lo + 1) * (t.c.hi - t.c.lo + 1)) (by omega)
  by_cases h2 : 60 < (t.b.hi - t.b.lo + 1) * (t.c.hi - t.c.lo + 1)
  · simp [-List.length_flatMap, -List.map_take, e_law04_TrialGives_r0, e_law04_TrialGives_r1, e_law04_TrialGives_r2, e_law04_TrialGives_r3, e_law04_TrialGives_r4, e_law04_TrialGives_r5, e_law04_TrialGives_r6, e_law04_TrialGives_r7, e_law04_TrialGives_r8, h1, hF, h0, w1, w2, w3, w4, w5, h2, C_wakes]
  cases hq : inn n (-2000000000) 2000000000
  · have hk := fun σ => @C_asked σ t (by omega) true 2
    simp [-List.length_flatMap, -List.map_take, e_law04_TrialGives_r0, e_law04_TrialGives_r1, e_law04_TrialGives_r2, e_law04_TrialGives_r3, e_law04_TrialGives_r4, e_law04_TrialGives_r5, e_law04_TrialGives_r6, e_law04_TrialGives_r7, e_law04_TrialGives_r8, h1, hF, h0, w1, w2, w3, w4, w5, h2, hT, hC, hk, capD, askedOf, C_In, hq, C_wakes]
  have hk := fun σ => @C_asked σ t (by omega) false 2
  cases hs : (sets t).isEmpty
  · have hR := fun σ => @C_Capacity σ t h (fun hh => by rw [hh] at hs; cases hs) n
    simp [-List.length_flatMap, -List.map_take, e_law04_TrialGives_r0, e_law04_TrialGives_r1, e_law04_TrialGives_r2, e_law04_TrialGives_r3, e_law04_TrialGives_r4, e_law04_TrialGives_r5, e_law04_TrialGives_r6, e_law04_TrialGives_r7, e_law04_TrialGives_r8, h1, hF, h0, w1, w2, w3, w4, w5, h2, hT, hC, hk, capD, askedOf, C_In, hq, hs, hR, C_wakes]
  · simp [-List.length_flatMap, -List.map_take, e_law04_TrialGives_r0, e_law04_TrialGives_r1, e_law04_TrialGives_r2, e_law04_TrialGives_r3, e_law04_TrialGives_r4, e_law04_TrialGives_r5, e_law04_TrialGives_r6, e_law04_TrialGives_r7, e_law04_TrialGives_r8, h1, hF, h0, w1, w2, w3, w4, w5, h2, hT, hC, hk, capD, askedOf, C_In, hq, hs, C_wakes]
theorem go_TrialGives (x0 x1 : D) (t0 : tyTest.hasV x0) (t1 : (Ty.int .i64).hasV x1) :
    ∃ σ', lim T (.call false i_law04_TrialGives [x0, x1] [[]]) = some (.val (.bool true) σ') := by
  obtain ⟨t, rfl⟩ := test_of t0
  obtain ⟨n, rfl, _⟩ := i64_of t1
  exact ⟨_, law_Gives⟩
end Go.Proofs.Ytcjjdaifpboaaaa
