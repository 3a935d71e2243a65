/-
  The law TrialFails answers true.
-/
import Derived.Test.YtcjjdaifpboaaaaH12
set_option linter.unusedVariables false
set_option linter.unusedSimpArgs false
namespace Go.Proofs.Ytcjjdaifpboaaaa
open Go Go.Abs Go.Trial
variable {σ : Stack}

theorem fault_7 (t : Test) : fault t ≠ 7 := by
  unfold fault
  split
  · decide
  · split <;> decide
theorem L_same {l : List (Int × Int)} (hl : l.length ≤ 100000) : ∀ (m i : Nat), i + m = l.length →
    WL T [5, 8, 9] false f_law04_TrialFails_l18 [(5, .lst l.length (l.flatMap prE)), (8, .lst l.length (l.flatMap prE)), (9, .int .i64 i)] σ
      (fun x e σ' => σ' = σ ∧ x = .exit 0)
  | 0, i, hi => by
    refine WL_step e_law04_TrialFails_l18 ?_
    have h1 : ¬ i < l.length := by omega
    simp [-List.length_flatMap, -List.map_take, e_law04_TrialFails_r0, e_law04_TrialFails_r1, e_law04_TrialFails_r2, e_law04_TrialFails_r3, e_law04_TrialFails_r4, e_law04_TrialFails_r5, e_law04_TrialFails_r6, e_law04_TrialFails_r7, e_law04_TrialFails_r8, e_law04_TrialFails_r9, e_law04_TrialFails_r10, e_law04_TrialFails_r11, e_law04_TrialFails_r12, e_law04_TrialFails_r13, e_law04_TrialFails_r14, e_law04_TrialFails_r15, e_law04_TrialFails_r16, e_law04_TrialFails_r17, e_law04_TrialFails_r19, h1]
  | m + 1, i, hi => by
    refine WL_step e_law04_TrialFails_l18 ?_
    have h1 : i < l.length := by omega
    obtain ⟨x, hx⟩ : ∃ x, l[i]? = some x := ⟨_, List.getElem?_eq_getElem h1⟩
    have h2 := flat_at (f := prE) (w := 2) (fun _ => rfl) hx
    have h4 := wnext h1 (by omega)
    have ih := L_same hl m (i + 1) (by omega)
    simp [-List.length_flatMap, -List.map_take, e_law04_TrialFails_r0, e_law04_TrialFails_r1, e_law04_TrialFails_r2, e_law04_TrialFails_r3, e_law04_TrialFails_r4, e_law04_TrialFails_r5, e_law04_TrialFails_r6, e_law04_TrialFails_r7, e_law04_TrialFails_r8, e_law04_TrialFails_r9, e_law04_TrialFails_r10, e_law04_TrialFails_r11, e_law04_TrialFails_r12, e_law04_TrialFails_r13, e_law04_TrialFails_r14, e_law04_TrialFails_r15, e_law04_TrialFails_r16, e_law04_TrialFails_r17, e_law04_TrialFails_r19, h1, h2, h4]
    exact WL.to ih (by simp) rfl fun x e σ' hh => hh
theorem prs_len {t : Test} (h : Tv t) : (prs t).length ≤ 1600 := by simpa [prs] using pairs_len h
theorem law_Fails {t : Test} : lim T (.call false i_law04_TrialFails [.agg [.int .i64 t.a.lo, .int .i64 t.a.hi, .int .i64 t.b.lo, .int .i64 t.b.hi, .int .i64 t.c.lo, .int .i64 t.c.hi, .lst t.st.length (t.st.flatMap Step.enc)]] [[]]) = some (.val (.bool true) [[]]) := by
  refine call_of T_law04_TrialFails e_law04_TrialFails rfl ?_
  by_cases hl : t.st.length ≤ 20
  rotate_left
  · have h1 : (20 : Int) < t.st.length := by omega
    simp [-List.length_flatMap, -List.map_take, e_law04_TrialFails_r0, e_law04_TrialFails_r1, e_law04_TrialFails_r2, e_law04_TrialFails_r3, e_law04_TrialFails_r4, e_law04_TrialFails_r5, e_law04_TrialFails_r6, e_law04_TrialFails_r7, e_law04_TrialFails_r8, e_law04_TrialFails_r9, e_law04_TrialFails_r10, e_law04_TrialFails_r11, e_law04_TrialFails_r12, e_law04_TrialFails_r13, e_law04_TrialFails_r14, e_law04_TrialFails_r15, e_law04_TrialFails_r16, e_law04_TrialFails_r17, e_law04_TrialFails_r19, h1, C_wakes]
  have h1 : ¬ (20 : Int) < t.st.length := by omega
  have hT := fun σ (hσ : σ ≠ []) => @C_Test σ t (by omega) hσ
  have hB := fun σ => @C_blame σ t (by omega)
  have hC := fun σ (hσ : σ ≠ []) => @C_conflicts σ t (by omega) hσ
  have hk := fun σ => @C_asked σ t (by omega) false 0
  have h7 := fault_7 t
  by_cases h0 : fault t = 0
  rotate_left
  · simp [-List.length_flatMap, -List.map_take, e_law04_TrialFails_r0, e_law04_TrialFails_r1, e_law04_TrialFails_r2, e_law04_TrialFails_r3, e_law04_TrialFails_r4, e_law04_TrialFails_r5, e_law04_TrialFails_r6, e_law04_TrialFails_r7, e_law04_TrialFails_r8, e_law04_TrialFails_r9, e_law04_TrialFails_r10, e_law04_TrialFails_r11, e_law04_TrialFails_r12, e_law04_TrialFails_r13, e_law04_TrialFails_r14, e_law04_TrialFails_r15, e_law04_TrialFails_r16, e_law04_TrialFails_r17, e_law04_TrialFails_r19, h1, hT, hB, hC, hk, h0, h7, blameD, confD, askedOf, C_wakes]
  have h := fault_tv h0
  cases hs : (sets t).isEmpty
  · have hne : sets t ≠ [] := fun hh => by rw [hh] at hs; cases hs
    have hb : bl t = none := blF_none hne _ _
    have ha : allC t (pairs t) = false := by rw [allC_iff, hs]
    simp [-List.length_flatMap, -List.map_take, e_law04_TrialFails_r0, e_law04_TrialFails_r1, e_law04_TrialFails_r2, e_law04_TrialFails_r3, e_law04_TrialFails_r4, e_law04_TrialFails_r5, e_law04_TrialFails_r6, e_law04_TrialFails_r7, e_law04_TrialFails_r8, e_law04_TrialFails_r9, e_law04_TrialFails_r10, e_law04_TrialFails_r11, e_law04_TrialFails_r12, e_law04_TrialFails_r13, e_law04_TrialFails_r14, e_law04_TrialFails_r15, e_law04_TrialFails_r16, e_law04_TrialFails_r17, e_law04_TrialFails_r19, h1, hT, hB, hC, hk, h0, blameD, confD, askedOf, hs, hb, ha, C_wakes]
  · have he : sets t = [] := by simpa using hs
    obtain ⟨k, hb, hkl⟩ := bl_some h he
    have ha : allC t (pairs t) = true := by rw [allC_iff, hs]
    have hR := fun σ (hσ : σ ≠ []) => @C_ConflictsR σ t h hσ
    have hbl := fun σ => @C_Blame σ t h
    rw [hb] at hbl
    have hp := prs_len h
    simp [-List.length_flatMap, -List.map_take, e_law04_TrialFails_r0, e_law04_TrialFails_r1, e_law04_TrialFails_r2, e_law04_TrialFails_r3, e_law04_TrialFails_r4, e_law04_TrialFails_r5, e_law04_TrialFails_r6, e_law04_TrialFails_r7, e_law04_TrialFails_r8, e_law04_TrialFails_r9, e_law04_TrialFails_r10, e_law04_TrialFails_r11, e_law04_TrialFails_r12, e_law04_TrialFails_r13, e_law04_TrialFails_r14, e_law04_TrialFails_r15, e_law04_TrialFails_r16, e_law04_TrialFails_r17, e_law04_TrialFails_r19, h1, hT, hB, hC, hk, h0, blameD, confD, askedOf, hs, hb, ha, hR, hbl]
    refine WL.to (L_same (σ := [[], []]) (l := prs t) (by omega) (prs t).length 0 (by omega)) (by simp) rfl ?_
    rintro x e σ' ⟨rfl, rfl⟩
    simp [-List.length_flatMap, -List.map_take, e_law04_TrialFails_r19, C_wakes]
theorem go_TrialFails (x0 : D) (t0 : tyTest.hasV x0) :
    ∃ σ', lim T (.call false i_law04_TrialFails [x0] [[]]) = some (.val (.bool true) σ') := by
  obtain ⟨t, rfl⟩ := test_of t0
  exact ⟨_, law_Fails⟩
end Go.Proofs.Ytcjjdaifpboaaaa
