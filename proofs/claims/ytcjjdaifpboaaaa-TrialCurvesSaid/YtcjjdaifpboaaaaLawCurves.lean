/-
  The law TrialCurves answers true.
-/
import Derived.Test.YtcjjdaifpboaaaaH7
set_option linter.unusedVariables false
set_option linter.unusedSimpArgs false
namespace Go.Proofs.Ytcjjdaifpboaaaa
open Go Go.Abs Go.Trial
variable {σ : Stack}

theorem law_Curves {t : Test} {a b c : Int} : lim T (.call false i_law04_TrialCurves [.agg [.int .i64 t.a.lo, .int .i64 t.a.hi, .int .i64 t.b.lo, .int .i64 t.b.hi, .int .i64 t.c.lo, .int .i64 t.c.hi, .lst t.st.length (t.st.flatMap Step.enc)], .agg [.int .i64 a, .int .i64 b, .int .i64 c]] [[]]) = some (.val (.bool true) [[]]) := by
  refine call_of T_law04_TrialCurves e_law04_TrialCurves rfl ?_
  by_cases hl : t.st.length ≤ 20
  rotate_left
  · have h1 : (20 : Int) < t.st.length := by omega
    simp [-List.length_flatMap, -List.map_take, e_law04_TrialCurves_r0, e_law04_TrialCurves_r1, e_law04_TrialCurves_r2, e_law04_TrialCurves_r3, e_law04_TrialCurves_r4, e_law04_TrialCurves_r5, e_law04_TrialCurves_r6, e_law04_TrialCurves_r7, e_law04_TrialCurves_r8, e_law04_TrialCurves_r9, e_law04_TrialCurves_r10, e_law04_TrialCurves_r11, e_law04_TrialCurves_r12, h1, C_wakes]
  have h1 : ¬ (20 : Int) < t.st.length := by omega
  have hT := fun σ (hσ : σ ≠ []) => @C_Test σ t (by omega) hσ
  have hc := fun σ => @C_check σ t (by omega)
  have hF := fun σ => @C_Fault σ t (by omega)
  have ha := fun σ => @C_agrees σ t (by omega) a b c
  have hC := fun σ (hσ : σ ≠ []) => @C_curves σ t (by omega) hσ
  have hk := fun σ => @C_asked σ t (by omega) false 0
  by_cases h0 : fault t = 0
  rotate_left
  · simp [-List.length_flatMap, -List.map_take, e_law04_TrialCurves_r0, e_law04_TrialCurves_r1, e_law04_TrialCurves_r2, e_law04_TrialCurves_r3, e_law04_TrialCurves_r4, e_law04_TrialCurves_r5, e_law04_TrialCurves_r6, e_law04_TrialCurves_r7, e_law04_TrialCurves_r8, e_law04_TrialCurves_r9, e_law04_TrialCurves_r10, e_law04_TrialCurves_r11, e_law04_TrialCurves_r12, h1, hT, hc, hF, ha, hC, hk, h0, agT, curvesD, askedOf, C_wakes]
  have h := fault_tv h0
  have hA := fun σ => @C_Agrees σ t h a b c
  have hR := fun σ => @C_Curves σ t h
  simp only [CurvesD] at hR
  cases hB : (agB t ⟨a, b, c⟩ && allB t.st (agS ⟨a, b, c⟩))
  · rw [hB] at hA
    cases hs : (sets t).isEmpty
    · simp [-List.length_flatMap, -List.map_take, e_law04_TrialCurves_r0, e_law04_TrialCurves_r1, e_law04_TrialCurves_r2, e_law04_TrialCurves_r3, e_law04_TrialCurves_r4, e_law04_TrialCurves_r5, e_law04_TrialCurves_r6, e_law04_TrialCurves_r7, e_law04_TrialCurves_r8, e_law04_TrialCurves_r9, e_law04_TrialCurves_r10, e_law04_TrialCurves_r11, e_law04_TrialCurves_r12, h1, hT, hc, hF, ha, hC, hk, h0, hA, hR, agT, hB, curvesD, askedOf, hs, C_wakes, C_Range]
    · simp [-List.length_flatMap, -List.map_take, e_law04_TrialCurves_r0, e_law04_TrialCurves_r1, e_law04_TrialCurves_r2, e_law04_TrialCurves_r3, e_law04_TrialCurves_r4, e_law04_TrialCurves_r5, e_law04_TrialCurves_r6, e_law04_TrialCurves_r7, e_law04_TrialCurves_r8, e_law04_TrialCurves_r9, e_law04_TrialCurves_r10, e_law04_TrialCurves_r11, e_law04_TrialCurves_r12, h1, hT, hc, hF, ha, hC, hk, h0, hA, hR, agT, hB, curvesD, askedOf, hs, C_wakes, C_Range]
  · rw [hB] at hA
    cases hs : (sets t).isEmpty
    · simp [-List.length_flatMap, -List.map_take, e_law04_TrialCurves_r0, e_law04_TrialCurves_r1, e_law04_TrialCurves_r2, e_law04_TrialCurves_r3, e_law04_TrialCurves_r4, e_law04_TrialCurves_r5, e_law04_TrialCurves_r6, e_law04_TrialCurves_r7, e_law04_TrialCurves_r8, e_law04_TrialCurves_r9, e_law04_TrialCurves_r10, e_law04_TrialCurves_r11, e_law04_TrialCurves_r12, h1, hT, hc, hF, ha, hC, hk, h0, hA, hR, agT, hB, curvesD, askedOf, hs, C_wakes, C_Range]
    · simp [-List.length_flatMap, -List.map_take, e_law04_TrialCurves_r0, e_law04_TrialCurves_r1, e_law04_TrialCurves_r2, e_law04_TrialCurves_r3, e_law04_TrialCurves_r4, e_law04_TrialCurves_r5, e_law04_TrialCurves_r6, e_law04_TrialCurves_r7, e_law04_TrialCurves_r8, e_law04_TrialCurves_r9, e_law04_TrialCurves_r10, e_law04_TrialCurves_r11, e_law04_TrialCurves_r12, h1, hT, hc, hF, ha, hC, hk, h0, hA, hR, agT, hB, curvesD, askedOf, hs, C_wakes, C_Range]

theorem cv_of {d : D} (h : (Ty.struct [.int .i64, .int .i64, .int .i64]).hasV d) : ∃ c : Cv, d = .agg c.enc := by
  obtain ⟨ds, rfl, h⟩ := h
  obtain ⟨_, _, rfl, ⟨a, rfl, _⟩, _, _, rfl, ⟨b, rfl, _⟩, _, _, rfl, ⟨c, rfl, _⟩, rfl⟩ := h
  exact ⟨⟨a, b, c⟩, rfl⟩
theorem go_TrialCurves (x0 x1 : D) (t0 : tyTest.hasV x0) (t1 : (Ty.struct [.int .i64, .int .i64, .int .i64]).hasV x1) :
    ∃ σ', lim T (.call false i_law04_TrialCurves [x0, x1] [[]]) = some (.val (.bool true) σ') := by
  obtain ⟨t, rfl⟩ := test_of t0
  obtain ⟨c, rfl⟩ := cv_of t1
  exact ⟨_, law_Curves⟩
end Go.Proofs.Ytcjjdaifpboaaaa
