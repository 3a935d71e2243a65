/-
  What the functions on ranges and surveys answer.
-/
import Derived.Test.YtcjjdaifpboaaaaTab
import Derived.Test.YtcjjdaifpboaaaaSurvSpec
set_option linter.unusedVariables false
set_option linter.unusedSimpArgs false
namespace Go.Proofs.Ytcjjdaifpboaaaa
open Go Go.Abs Go.Trial
variable {σ : Stack}

theorem C_within {a b c : Int} : lim T (.call false i_trial_within [.int .i64 a, .int .i64 b, .int .i64 c] σ) = some (.val (.bool (inn a b c)) σ) := by
  refine call_of T_trial_within e_trial_within rfl ?_
  by_cases h : b ≤ a <;> simp [-List.length_flatMap, -List.map_take, e_trial_within_r0, e_trial_within_r1, h, inn]
theorem C_In {a b c : Int} : lim T (.call false i_ref04_In [.int .i64 a, .int .i64 b, .int .i64 c] σ) = some (.val (.bool (inn a b c)) σ) := by
  refine call_of T_ref04_In e_ref04_In rfl ?_
  by_cases h : b ≤ a <;> simp [-List.length_flatMap, -List.map_take, e_ref04_In_r0, e_ref04_In_r1, h, inn]
theorem C_right {a b lo hi : Int} : lim T (.call false i_trial_Range_right [.agg [.int .i64 a, .int .i64 b], .int .i64 lo, .int .i64 hi] σ) = some (.val (.bool (Rg.right ⟨a, b⟩ lo hi)) σ) := by
  refine call_of T_trial_Range_right e_trial_Range_right rfl ?_
  by_cases hc1 : lo ≤ a
  rotate_left
  · simp [-List.length_flatMap, -List.map_take, e_trial_Range_right_r0, e_trial_Range_right_r1, Rg.right, hc1]
  by_cases hc2 : a ≤ b
  rotate_left
  · simp [-List.length_flatMap, -List.map_take, e_trial_Range_right_r0, e_trial_Range_right_r1, Rg.right, hc1, hc2]
  simp [-List.length_flatMap, -List.map_take, e_trial_Range_right_r0, e_trial_Range_right_r1, Rg.right, hc1, hc2]
theorem C_drops {a b : Int} : lim T (.call false i_trial_Range_drops [.agg [.int .i64 a, .int .i64 b]] σ) = some (.val (.bool (Rg.drops ⟨a, b⟩)) σ) := by
  refine call_of T_trial_Range_drops e_trial_Range_drops rfl ?_
  simp [-List.length_flatMap, -List.map_take, e_trial_Range_drops_r0, e_trial_Range_drops_r1, C_right, Rg.drops]
theorem right_in {a b lo hi : Int} : (inn a lo hi && (inn b lo hi && decide (a ≤ b))) = Rg.right ⟨a, b⟩ lo hi := by
  rw [Bool.eq_iff_iff]
  simp [inn, Rg.right]
  omega
theorem C_Right {a b lo hi : Int} : lim T (.call false i_ref04_Right [.agg [.int .i64 a, .int .i64 b], .int .i64 lo, .int .i64 hi] σ) = some (.val (.bool (Rg.right ⟨a, b⟩ lo hi)) σ) := by
  rw [← right_in]
  refine call_of T_ref04_Right e_ref04_Right rfl ?_
  cases hc1 : inn a lo hi
  · simp [-List.length_flatMap, -List.map_take, e_ref04_Right_r0, e_ref04_Right_r1, C_In, hc1]
  cases hc2 : inn b lo hi
  · simp [-List.length_flatMap, -List.map_take, e_ref04_Right_r0, e_ref04_Right_r1, C_In, hc1, hc2]
  simp [-List.length_flatMap, -List.map_take, e_ref04_Right_r0, e_ref04_Right_r1, C_In, hc1, hc2]
theorem C_Range {a b : Int} : lim T (.call false i_law04_Range [.agg [.int .i64 a, .int .i64 b]] σ) = some (.val (.agg [.int .i64 a, .int .i64 b]) σ) := by
  refine call_of T_law04_Range e_law04_Range rfl ?_
  simp [-List.length_flatMap, -List.map_take, e_law04_Range_r0, e_law04_Range_r1]

theorem dropS {α : Type} {l : List α} {i : Nat} {x : α} (hx : l[i]? = some x) : l.drop i = x :: l.drop (i + 1) := by
  have h1 := (List.getElem?_eq_some_iff.1 hx).1
  rw [List.drop_eq_getElem_cons h1]
  rw [List.getElem?_eq_getElem h1] at hx; cases hx; rfl
theorem drops_right {r : Rg} : r.drops = r.right (-2000000000) 2000000000 := rfl
theorem L_seen {s : Surv} (hw : 1 ≤ s.w ∧ s.w ≤ 10) (hl : s.l.length ≤ 60) : ∀ (m i : Nat), i + m = s.l.length →
    WL T [1, 20, 21, 22] false f_trial_CheckSurvey_l11 [(1, .cref s.enc), (20, .lst s.l.length (s.l.flatMap Seen.enc)), (21, .int .i64 s.l.length), (22, .int .i64 i)] σ
      (fun x e σ' => σ' = σ ∧ if allB (s.l.drop i) (seenOk s.w) then x = .exit 0 else x = .ret ∧ get e 2 = .int .i64 1)
  | 0, i, hi => by
    refine WL_step e_trial_CheckSurvey_l11 ?_
    have h1 : ¬ i < s.l.length := by omega
    have h2 : s.l.drop i = [] := List.drop_eq_nil_of_le (by omega)
    simp [-List.length_flatMap, -List.map_take, e_trial_CheckSurvey_r0, e_trial_CheckSurvey_r1, e_trial_CheckSurvey_r2, e_trial_CheckSurvey_r3, e_trial_CheckSurvey_r4, e_trial_CheckSurvey_r5, e_trial_CheckSurvey_r6, e_trial_CheckSurvey_r7, e_trial_CheckSurvey_r8, e_trial_CheckSurvey_r9, e_trial_CheckSurvey_r10, e_trial_CheckSurvey_r12, h1, h2, allB]
  | m + 1, i, hi => by
    refine WL_step e_trial_CheckSurvey_l11 ?_
    have h1 : i < s.l.length := by omega
    obtain ⟨x, hx⟩ : ∃ x, s.l[i]? = some x := ⟨_, List.getElem?_eq_getElem h1⟩
    have h2 := flat_at (f := Seen.enc) (w := 4) (fun _ => rfl) hx
    have h4 := wnext h1 (by omega)
    have w1 := w64 (n := s.w - 1) (by omega)
    have ih := L_seen hw hl m (i + 1) (by omega)
    have h6 : allB (s.l.drop i) (seenOk s.w) = ((inn x.f 0 (s.w - 1) && (inn x.t 0 (s.w - 1) && (!decide (x.f = x.t) && x.d.drops))) && allB (s.l.drop (i + 1)) (seenOk s.w)) := by rw [dropS hx]; rfl
    rw [h6]
    by_cases c1 : inn x.f 0 (s.w - 1) = true
    rotate_left
    · rw [Bool.not_eq_true] at c1
      simp [-List.length_flatMap, -List.map_take, e_trial_CheckSurvey_r0, e_trial_CheckSurvey_r1, e_trial_CheckSurvey_r2, e_trial_CheckSurvey_r3, e_trial_CheckSurvey_r4, e_trial_CheckSurvey_r5, e_trial_CheckSurvey_r6, e_trial_CheckSurvey_r7, e_trial_CheckSurvey_r8, e_trial_CheckSurvey_r9, e_trial_CheckSurvey_r10, e_trial_CheckSurvey_r12, h1, h2, h4, w1, C_within, c1]
    by_cases c2 : inn x.t 0 (s.w - 1) = true
    rotate_left
    · rw [Bool.not_eq_true] at c2
      simp [-List.length_flatMap, -List.map_take, e_trial_CheckSurvey_r0, e_trial_CheckSurvey_r1, e_trial_CheckSurvey_r2, e_trial_CheckSurvey_r3, e_trial_CheckSurvey_r4, e_trial_CheckSurvey_r5, e_trial_CheckSurvey_r6, e_trial_CheckSurvey_r7, e_trial_CheckSurvey_r8, e_trial_CheckSurvey_r9, e_trial_CheckSurvey_r10, e_trial_CheckSurvey_r12, h1, h2, h4, w1, C_within, c1, c2]
    by_cases c3 : x.f = x.t
    · simp [-List.length_flatMap, -List.map_take, e_trial_CheckSurvey_r0, e_trial_CheckSurvey_r1, e_trial_CheckSurvey_r2, e_trial_CheckSurvey_r3, e_trial_CheckSurvey_r4, e_trial_CheckSurvey_r5, e_trial_CheckSurvey_r6, e_trial_CheckSurvey_r7, e_trial_CheckSurvey_r8, e_trial_CheckSurvey_r9, e_trial_CheckSurvey_r10, e_trial_CheckSurvey_r12, h1, h2, h4, w1, C_within, c1, c2, c3]
    by_cases c4 : x.d.drops = true
    rotate_left
    · rw [Bool.not_eq_true] at c4
      simp [-List.length_flatMap, -List.map_take, e_trial_CheckSurvey_r0, e_trial_CheckSurvey_r1, e_trial_CheckSurvey_r2, e_trial_CheckSurvey_r3, e_trial_CheckSurvey_r4, e_trial_CheckSurvey_r5, e_trial_CheckSurvey_r6, e_trial_CheckSurvey_r7, e_trial_CheckSurvey_r8, e_trial_CheckSurvey_r9, e_trial_CheckSurvey_r10, e_trial_CheckSurvey_r12, h1, h2, h4, w1, C_within, C_drops, c1, c2, c3, c4]
    · simp [-List.length_flatMap, -List.map_take, e_trial_CheckSurvey_r0, e_trial_CheckSurvey_r1, e_trial_CheckSurvey_r2, e_trial_CheckSurvey_r3, e_trial_CheckSurvey_r4, e_trial_CheckSurvey_r5, e_trial_CheckSurvey_r6, e_trial_CheckSurvey_r7, e_trial_CheckSurvey_r8, e_trial_CheckSurvey_r9, e_trial_CheckSurvey_r10, e_trial_CheckSurvey_r12, h1, h2, h4, w1, C_within, C_drops, c1, c2, c3, c4]
      refine WL.to ih (by simp) rfl ?_
      intro x' e σ' hh
      simpa [c1, c2, c3, c4] using hh
theorem C_checkS {s : Surv} (hl : s.l.length ≤ 100000) : lim T (.call false i_trial_CheckSurvey [.agg [.int .i64 s.w, .int .i64 s.lv, .lst s.l.length (s.l.flatMap Seen.enc)]] σ) = some (.val (.int .i64 (sFault s)) σ) := by
  refine call_of T_trial_CheckSurvey e_trial_CheckSurvey rfl ?_
  unfold sFault
  by_cases h0 : 60 < s.l.length
  · have h0' : (60 : Int) < s.l.length := by omega
    simp [-List.length_flatMap, -List.map_take, e_trial_CheckSurvey_r0, e_trial_CheckSurvey_r1, e_trial_CheckSurvey_r2, e_trial_CheckSurvey_r3, e_trial_CheckSurvey_r4, e_trial_CheckSurvey_r5, e_trial_CheckSurvey_r6, e_trial_CheckSurvey_r7, e_trial_CheckSurvey_r8, e_trial_CheckSurvey_r9, e_trial_CheckSurvey_r10, e_trial_CheckSurvey_r12, h0, h0']
  have h0' : ¬ (60 : Int) < s.l.length := by omega
  cases ha : inn s.w 1 10
  · simp [-List.length_flatMap, -List.map_take, e_trial_CheckSurvey_r0, e_trial_CheckSurvey_r1, e_trial_CheckSurvey_r2, e_trial_CheckSurvey_r3, e_trial_CheckSurvey_r4, e_trial_CheckSurvey_r5, e_trial_CheckSurvey_r6, e_trial_CheckSurvey_r7, e_trial_CheckSurvey_r8, e_trial_CheckSurvey_r9, e_trial_CheckSurvey_r10, e_trial_CheckSurvey_r12, h0, h0', C_within, ha]
  cases hb : inn s.lv (-2000000000) 2000000000
  · simp [-List.length_flatMap, -List.map_take, e_trial_CheckSurvey_r0, e_trial_CheckSurvey_r1, e_trial_CheckSurvey_r2, e_trial_CheckSurvey_r3, e_trial_CheckSurvey_r4, e_trial_CheckSurvey_r5, e_trial_CheckSurvey_r6, e_trial_CheckSurvey_r7, e_trial_CheckSurvey_r8, e_trial_CheckSurvey_r9, e_trial_CheckSurvey_r10, e_trial_CheckSurvey_r12, h0, h0', C_within, ha, hb]
  simp [-List.length_flatMap, -List.map_take, e_trial_CheckSurvey_r0, e_trial_CheckSurvey_r1, e_trial_CheckSurvey_r2, e_trial_CheckSurvey_r3, e_trial_CheckSurvey_r4, e_trial_CheckSurvey_r5, e_trial_CheckSurvey_r6, e_trial_CheckSurvey_r7, e_trial_CheckSurvey_r8, e_trial_CheckSurvey_r9, e_trial_CheckSurvey_r10, e_trial_CheckSurvey_r12, h0, h0', C_within, ha, hb]
  refine WL.to (L_seen (σ := [] :: σ) (inn_iff.1 ha) (by omega) s.l.length 0 (by omega)) (by simp) rfl ?_
  rintro x e σ' ⟨rfl, hx⟩
  simp only [List.drop_zero] at hx
  cases hA : allB s.l (seenOk s.w)
  · rw [hA] at hx
    simp only [Bool.false_eq_true, if_false] at hx
    obtain ⟨rfl, g⟩ := hx
    simp [-List.length_flatMap, -List.map_take, e_trial_CheckSurvey_r0, e_trial_CheckSurvey_r1, e_trial_CheckSurvey_r2, e_trial_CheckSurvey_r3, e_trial_CheckSurvey_r4, e_trial_CheckSurvey_r5, e_trial_CheckSurvey_r6, e_trial_CheckSurvey_r7, e_trial_CheckSurvey_r8, e_trial_CheckSurvey_r9, e_trial_CheckSurvey_r10, e_trial_CheckSurvey_r12, g, h0]
  · rw [hA] at hx
    simp only [if_true] at hx
    subst hx
    simp [-List.length_flatMap, -List.map_take, e_trial_CheckSurvey_r0, e_trial_CheckSurvey_r1, e_trial_CheckSurvey_r2, e_trial_CheckSurvey_r3, e_trial_CheckSurvey_r4, e_trial_CheckSurvey_r5, e_trial_CheckSurvey_r6, e_trial_CheckSurvey_r7, e_trial_CheckSurvey_r8, e_trial_CheckSurvey_r9, e_trial_CheckSurvey_r10, e_trial_CheckSurvey_r12, h0]
theorem L_Seen {s : Surv} (hw : 1 ≤ s.w ∧ s.w ≤ 10) (hl : s.l.length ≤ 60) : ∀ (m i : Nat), i + m = s.l.length →
    WL T [1, 3] false f_ref04_SurveyFault_l11 [(1, .cref s.enc), (3, .int .i64 i)] σ
      (fun x e σ' => σ' = σ ∧ if allB (s.l.drop i) (seenOk s.w) then x = .exit 0 else x = .ret ∧ get e 2 = .int .i64 1)
  | 0, i, hi => by
    refine WL_step e_ref04_SurveyFault_l11 ?_
    have h1 : ¬ i < s.l.length := by omega
    have h2 : s.l.drop i = [] := List.drop_eq_nil_of_le (by omega)
    simp [-List.length_flatMap, -List.map_take, e_ref04_SurveyFault_r0, e_ref04_SurveyFault_r1, e_ref04_SurveyFault_r2, e_ref04_SurveyFault_r3, e_ref04_SurveyFault_r4, e_ref04_SurveyFault_r5, e_ref04_SurveyFault_r6, e_ref04_SurveyFault_r7, e_ref04_SurveyFault_r8, e_ref04_SurveyFault_r9, e_ref04_SurveyFault_r10, e_ref04_SurveyFault_r12, h1, h2, allB]
  | m + 1, i, hi => by
    refine WL_step e_ref04_SurveyFault_l11 ?_
    have h1 : i < s.l.length := by omega
    obtain ⟨x, hx⟩ : ∃ x, s.l[i]? = some x := ⟨_, List.getElem?_eq_getElem h1⟩
    have h2 := flat_at (f := Seen.enc) (w := 4) (fun _ => rfl) hx
    have h4 := wnext h1 (by omega)
    have w1 := w64 (n := s.w - 1) (by omega)
    have ih := L_Seen hw hl m (i + 1) (by omega)
    have h6 : allB (s.l.drop i) (seenOk s.w) = ((inn x.f 0 (s.w - 1) && (inn x.t 0 (s.w - 1) && (!decide (x.f = x.t) && x.d.drops))) && allB (s.l.drop (i + 1)) (seenOk s.w)) := by rw [dropS hx]; rfl
    rw [h6]
    by_cases c1 : inn x.f 0 (s.w - 1) = true
    rotate_left
    · rw [Bool.not_eq_true] at c1
      simp [-List.length_flatMap, -List.map_take, e_ref04_SurveyFault_r0, e_ref04_SurveyFault_r1, e_ref04_SurveyFault_r2, e_ref04_SurveyFault_r3, e_ref04_SurveyFault_r4, e_ref04_SurveyFault_r5, e_ref04_SurveyFault_r6, e_ref04_SurveyFault_r7, e_ref04_SurveyFault_r8, e_ref04_SurveyFault_r9, e_ref04_SurveyFault_r10, e_ref04_SurveyFault_r12, h1, h2, h4, w1, C_In, c1]
    by_cases c2 : inn x.t 0 (s.w - 1) = true
    rotate_left
    · rw [Bool.not_eq_true] at c2
      simp [-List.length_flatMap, -List.map_take, e_ref04_SurveyFault_r0, e_ref04_SurveyFault_r1, e_ref04_SurveyFault_r2, e_ref04_SurveyFault_r3, e_ref04_SurveyFault_r4, e_ref04_SurveyFault_r5, e_ref04_SurveyFault_r6, e_ref04_SurveyFault_r7, e_ref04_SurveyFault_r8, e_ref04_SurveyFault_r9, e_ref04_SurveyFault_r10, e_ref04_SurveyFault_r12, h1, h2, h4, w1, C_In, c1, c2]
    by_cases c3 : x.f = x.t
    · simp [-List.length_flatMap, -List.map_take, e_ref04_SurveyFault_r0, e_ref04_SurveyFault_r1, e_ref04_SurveyFault_r2, e_ref04_SurveyFault_r3, e_ref04_SurveyFault_r4, e_ref04_SurveyFault_r5, e_ref04_SurveyFault_r6, e_ref04_SurveyFault_r7, e_ref04_SurveyFault_r8, e_ref04_SurveyFault_r9, e_ref04_SurveyFault_r10, e_ref04_SurveyFault_r12, h1, h2, h4, w1, C_In, c1, c2, c3]
    by_cases c4 : x.d.right (-2000000000) 2000000000 = true
    rotate_left
    · rw [Bool.not_eq_true] at c4
      simp [-List.length_flatMap, -List.map_take, e_ref04_SurveyFault_r0, e_ref04_SurveyFault_r1, e_ref04_SurveyFault_r2, e_ref04_SurveyFault_r3, e_ref04_SurveyFault_r4, e_ref04_SurveyFault_r5, e_ref04_SurveyFault_r6, e_ref04_SurveyFault_r7, e_ref04_SurveyFault_r8, e_ref04_SurveyFault_r9, e_ref04_SurveyFault_r10, e_ref04_SurveyFault_r12, h1, h2, h4, w1, C_In, C_Right, c1, c2, c3, c4, drops_right]
    · simp [-List.length_flatMap, -List.map_take, e_ref04_SurveyFault_r0, e_ref04_SurveyFault_r1, e_ref04_SurveyFault_r2, e_ref04_SurveyFault_r3, e_ref04_SurveyFault_r4, e_ref04_SurveyFault_r5, e_ref04_SurveyFault_r6, e_ref04_SurveyFault_r7, e_ref04_SurveyFault_r8, e_ref04_SurveyFault_r9, e_ref04_SurveyFault_r10, e_ref04_SurveyFault_r12, h1, h2, h4, w1, C_In, C_Right, c1, c2, c3, c4, drops_right]
      refine WL.to ih (by simp) rfl ?_
      intro x' e σ' hh
      simpa [c1, c2, c3, c4, drops_right] using hh
theorem C_FaultS {s : Surv} (hl : s.l.length ≤ 100000) : lim T (.call false i_ref04_SurveyFault [.agg [.int .i64 s.w, .int .i64 s.lv, .lst s.l.length (s.l.flatMap Seen.enc)]] σ) = some (.val (.int .i64 (sFault s)) σ) := by
  refine call_of T_ref04_SurveyFault e_ref04_SurveyFault rfl ?_
  unfold sFault
  by_cases h0 : 60 < s.l.length
  · have h0' : (60 : Int) < s.l.length := by omega
    simp [-List.length_flatMap, -List.map_take, e_ref04_SurveyFault_r0, e_ref04_SurveyFault_r1, e_ref04_SurveyFault_r2, e_ref04_SurveyFault_r3, e_ref04_SurveyFault_r4, e_ref04_SurveyFault_r5, e_ref04_SurveyFault_r6, e_ref04_SurveyFault_r7, e_ref04_SurveyFault_r8, e_ref04_SurveyFault_r9, e_ref04_SurveyFault_r10, e_ref04_SurveyFault_r12, h0, h0']
  have h0' : ¬ (60 : Int) < s.l.length := by omega
  cases ha : inn s.w 1 10
  · simp [-List.length_flatMap, -List.map_take, e_ref04_SurveyFault_r0, e_ref04_SurveyFault_r1, e_ref04_SurveyFault_r2, e_ref04_SurveyFault_r3, e_ref04_SurveyFault_r4, e_ref04_SurveyFault_r5, e_ref04_SurveyFault_r6, e_ref04_SurveyFault_r7, e_ref04_SurveyFault_r8, e_ref04_SurveyFault_r9, e_ref04_SurveyFault_r10, e_ref04_SurveyFault_r12, h0, h0', C_In, ha]
  cases hb : inn s.lv (-2000000000) 2000000000
  · simp [-List.length_flatMap, -List.map_take, e_ref04_SurveyFault_r0, e_ref04_SurveyFault_r1, e_ref04_SurveyFault_r2, e_ref04_SurveyFault_r3, e_ref04_SurveyFault_r4, e_ref04_SurveyFault_r5, e_ref04_SurveyFault_r6, e_ref04_SurveyFault_r7, e_ref04_SurveyFault_r8, e_ref04_SurveyFault_r9, e_ref04_SurveyFault_r10, e_ref04_SurveyFault_r12, h0, h0', C_In, ha, hb]
  simp [-List.length_flatMap, -List.map_take, e_ref04_SurveyFault_r0, e_ref04_SurveyFault_r1, e_ref04_SurveyFault_r2, e_ref04_SurveyFault_r3, e_ref04_SurveyFault_r4, e_ref04_SurveyFault_r5, e_ref04_SurveyFault_r6, e_ref04_SurveyFault_r7, e_ref04_SurveyFault_r8, e_ref04_SurveyFault_r9, e_ref04_SurveyFault_r10, e_ref04_SurveyFault_r12, h0, h0', C_In, ha, hb]
  refine WL.to (L_Seen (σ := [] :: σ) (inn_iff.1 ha) (by omega) s.l.length 0 (by omega)) (by simp) rfl ?_
  rintro x e σ' ⟨rfl, hx⟩
  simp only [List.drop_zero] at hx
  cases hA : allB s.l (seenOk s.w)
  · rw [hA] at hx
    simp only [Bool.false_eq_true, if_false] at hx
    obtain ⟨rfl, g⟩ := hx
    simp [-List.length_flatMap, -List.map_take, e_ref04_SurveyFault_r0, e_ref04_SurveyFault_r1, e_ref04_SurveyFault_r2, e_ref04_SurveyFault_r3, e_ref04_SurveyFault_r4, e_ref04_SurveyFault_r5, e_ref04_SurveyFault_r6, e_ref04_SurveyFault_r7, e_ref04_SurveyFault_r8, e_ref04_SurveyFault_r9, e_ref04_SurveyFault_r10, e_ref04_SurveyFault_r12, g, h0]
  · rw [hA] at hx
    simp only [if_true] at hx
    subst hx
    simp [-List.length_flatMap, -List.map_take, e_ref04_SurveyFault_r0, e_ref04_SurveyFault_r1, e_ref04_SurveyFault_r2, e_ref04_SurveyFault_r3, e_ref04_SurveyFault_r4, e_ref04_SurveyFault_r5, e_ref04_SurveyFault_r6, e_ref04_SurveyFault_r7, e_ref04_SurveyFault_r8, e_ref04_SurveyFault_r9, e_ref04_SurveyFault_r10, e_ref04_SurveyFault_r12, h0]

theorem L_Surv {s : Surv} (hl : s.l.length ≤ 100000) : ∀ (m i : Nat), i + m = s.l.length →
    WL T [1, 2, 3, 4] false f_law04_Survey_l6 [(1, .cref s.enc), (2, .own 0 [.int .i64 0, .int .i64 0, .nils]), (3, .own 0 [.int .i64 s.w, .int .i64 s.lv, .sl σ.length 0 i 0 i 4]), (4, .int .i64 i)]
      ([.cells i ((s.l.take i).flatMap Seen.enc)] :: σ)
      (fun x e σ' => x = .exit 0 ∧ get e 2 = .own 0 [.int .i64 0, .int .i64 0, .nils] ∧ get e 3 = .own 0 [.int .i64 s.w, .int .i64 s.lv, .sl σ.length 0 s.l.length 0 s.l.length 4] ∧ σ' = [.cells s.l.length (s.l.flatMap Seen.enc)] :: σ)
  | 0, i, hi => by
    refine WL_step e_law04_Survey_l6 ?_
    have h1 : ¬ i < s.l.length := by omega
    have h2 : i = s.l.length := by omega
    subst h2
    simp [-List.length_flatMap, -List.map_take, e_law04_Survey_r0, e_law04_Survey_r1, e_law04_Survey_r2, e_law04_Survey_r3, e_law04_Survey_r4, e_law04_Survey_r5, e_law04_Survey_r7]
  | m + 1, i, hi => by
    refine WL_step e_law04_Survey_l6 ?_
    have h1 : i < s.l.length := by omega
    obtain ⟨x, hx⟩ : ∃ x, s.l[i]? = some x := ⟨_, List.getElem?_eq_getElem h1⟩
    have h2 := flat_at (f := Seen.enc) (w := 4) (fun _ => rfl) hx
    have h3 := flat_take (f := Seen.enc) (w := 4) (fun _ => rfl) (Nat.le_of_lt h1)
    have h4 := flat_snoc (f := Seen.enc) hx
    have h5 := flat_len (f := Seen.enc) (w := 4) (fun _ => rfl) (s.l.take i)
    have h6 := wnext h1 (by omega)
    have h7 : (i + 1) * 32 ≤ room := by unfold room; omega
    have h8 : min i s.l.length = i := by omega
    have ih := L_Surv hl m (i + 1) (by omega)
    simp [-List.length_flatMap, -List.map_take, e_law04_Survey_r0, e_law04_Survey_r1, e_law04_Survey_r2, e_law04_Survey_r3, e_law04_Survey_r4, e_law04_Survey_r5, e_law04_Survey_r7, h1, h2, h3, h5, h6, h7, h8, C_Range]
    refine WL.to ih (by simp) (by simp [← h4]) fun x e σ hh => hh
theorem C_Survey {s : Surv} (hl : s.l.length ≤ 100000) (hσ : σ ≠ []) : lim T (.call false i_law04_Survey [.agg [.int .i64 s.w, .int .i64 s.lv, .lst s.l.length (s.l.flatMap Seen.enc)]] σ) = some (.val (.agg [.int .i64 s.w, .int .i64 s.lv, .lst s.l.length (s.l.flatMap Seen.enc)]) σ) := by
  refine call_of T_law04_Survey e_law04_Survey rfl ?_
  simp [-List.length_flatMap, -List.map_take, e_law04_Survey_r0, e_law04_Survey_r1, e_law04_Survey_r2, e_law04_Survey_r3, e_law04_Survey_r4, e_law04_Survey_r5, e_law04_Survey_r7, C_Range]
  refine WL.to (L_Surv (σ := σ) hl s.l.length 0 (by omega)) (by simp) (by simp) ?_
  rintro x e σ' ⟨rfl, h1, h2, rfl⟩
  simp [-List.length_flatMap, -List.map_take, h1, h2, e_law04_Survey_r7]
  rw [frz_agg (by simp) (by omega)]
  have h3 : ¬ σ.length ≤ σ.length - 1 := by have := List.length_pos_iff.2 hσ; omega
  have h6 := k_self (f := Seen.enc) (w := 4) (fun _ => rfl) s.l
  have h5 : D.cleanL (s.l.flatMap Seen.enc) = true := k_clean (fun x => by simp) _
  simp only [frzL_cons, frzL_nil]
  rw [frz_sl h3 (cs := s.l.flatMap Seen.enc) (by simp) (by omega)]
  simp [h6, h5]

theorem C_joined {s : Surv} {x : Seen} : lim T (.call false i_trial_Survey_joined [.agg [.int .i64 s.w, .int .i64 s.lv, .lst s.l.length (s.l.flatMap Seen.enc)], .agg x.enc] σ) = some (.val (.bool (sure s x)) σ) := by
  refine call_of T_trial_Survey_joined e_trial_Survey_joined rfl ?_
  simp [-List.length_flatMap, -List.map_take, e_trial_Survey_joined_r0, e_trial_Survey_joined_r1, sure]
theorem C_apart {s : Surv} {x : Seen} : lim T (.call false i_trial_Survey_apart [.agg [.int .i64 s.w, .int .i64 s.lv, .lst s.l.length (s.l.flatMap Seen.enc)], .agg x.enc] σ) = some (.val (.bool (agin s x)) σ) := by
  refine call_of T_trial_Survey_apart e_trial_Survey_apart rfl ?_
  simp [-List.length_flatMap, -List.map_take, e_trial_Survey_apart_r0, e_trial_Survey_apart_r1, agin]
theorem C_Sure {s : Surv} {x : Seen} : lim T (.call false i_ref04_Sure [.agg [.int .i64 s.w, .int .i64 s.lv, .lst s.l.length (s.l.flatMap Seen.enc)], .agg x.enc] σ) = some (.val (.bool (sure s x)) σ) := by
  refine call_of T_ref04_Sure e_ref04_Sure rfl ?_
  simp [-List.length_flatMap, -List.map_take, e_ref04_Sure_r0, e_ref04_Sure_r1, sure]
theorem C_Against {s : Surv} {x : Seen} : lim T (.call false i_ref04_Against [.agg [.int .i64 s.w, .int .i64 s.lv, .lst s.l.length (s.l.flatMap Seen.enc)], .agg x.enc] σ) = some (.val (.bool (agin s x)) σ) := by
  refine call_of T_ref04_Against e_ref04_Against rfl ?_
  simp [-List.length_flatMap, -List.map_take, e_ref04_Against_r0, e_ref04_Against_r1, agin]
end Go.Proofs.Ytcjjdaifpboaaaa
