/-
  What the functions on ranges, curves and tests answer.
-/
import Derived.Test.YtcjjdaifpboaaaaTab
import Derived.Test.YtcjjdaifpboaaaaTrialSpec
set_option linter.unusedVariables false
set_option linter.unusedSimpArgs false
namespace Go.Proofs.Ytcjjdaifpboaaaa
open Go Go.Abs Go.Trial
variable {σ : Stack}

theorem C_within {a b c : Int} : lim T (.call false i_trial_within [.int .i64 a, .int .i64 b, .int .i64 c] σ) = some (.val (.bool (inn a b c)) σ) := by
  refine call_of T_trial_within e_trial_within rfl ?_
  by_cases h : b ≤ a <;> simp [-List.length_flatMap, -List.map_take, e_trial_within_r0, e_trial_within_r1, h, inn]
theorem C_In {a b c : Int} : lim T (.call false i_ref04_In [.int .i64 a, .int .i64 b, .int .i64 c] σ) = some (.val (.bool (inn a b c)) σ) := by
  refine call_of T_ref04_In e_ref04_In rfl ?_
  by_cases h : b ≤ a <;> simp [-List.length_flatMap, -List.map_take, e_ref04_In_r0, e_ref04_In_r1, h, inn]
theorem C_has {a b n : Int} : lim T (.call false i_trial_Range_has [.agg [.int .i64 a, .int .i64 b], .int .i64 n] σ) = some (.val (.bool (inn n a b)) σ) := by
  refine call_of T_trial_Range_has e_trial_Range_has rfl ?_
  simp [-List.length_flatMap, -List.map_take, e_trial_Range_has_r0, e_trial_Range_has_r1, C_within]
theorem C_right {a b lo hi : Int} : lim T (.call false i_trial_Range_right [.agg [.int .i64 a, .int .i64 b], .int .i64 lo, .int .i64 hi] σ) = some (.val (.bool (Rg.right ⟨a, b⟩ lo hi)) σ) := by
  refine call_of T_trial_Range_right e_trial_Range_right rfl ?_
  by_cases hc1 : lo ≤ a
  rotate_left
  · simp [-List.length_flatMap, -List.map_take, e_trial_Range_right_r0, e_trial_Range_right_r1, Rg.right, hc1]
  by_cases hc2 : a ≤ b
  rotate_left
  · simp [-List.length_flatMap, -List.map_take, e_trial_Range_right_r0, e_trial_Range_right_r1, Rg.right, hc1, hc2]
  simp [-List.length_flatMap, -List.map_take, e_trial_Range_right_r0, e_trial_Range_right_r1, Rg.right, hc1, hc2]
theorem C_drops {a b : Int} : lim T (.call false i_trial_Range_drops [.agg [.int .i64 a, .int .i64 b]] σ) = some (.val (.bool (Rg.drops ⟨a, b⟩)) σ) := by
  refine call_of T_trial_Range_drops e_trial_Range_drops rfl ?_
  simp [-List.length_flatMap, -List.map_take, e_trial_Range_drops_r0, e_trial_Range_drops_r1, C_right, Rg.drops]
theorem right_in {a b lo hi : Int} : (inn a lo hi && (inn b lo hi && decide (a ≤ b))) = Rg.right ⟨a, b⟩ lo hi := by
  rw [Bool.eq_iff_iff]
  simp [inn, Rg.right]
  omega
theorem C_Right {a b lo hi : Int} : lim T (.call false i_ref04_Right [.agg [.int .i64 a, .int .i64 b], .int .i64 lo, .int .i64 hi] σ) = some (.val (.bool (Rg.right ⟨a, b⟩ lo hi)) σ) := by
  rw [← right_in]
  refine call_of T_ref04_Right e_ref04_Right rfl ?_
  cases hc1 : inn a lo hi
  · simp [-List.length_flatMap, -List.map_take, e_ref04_Right_r0, e_ref04_Right_r1, C_In, hc1]
  cases hc2 : inn b lo hi
  · simp [-List.length_flatMap, -List.map_take, e_ref04_Right_r0, e_ref04_Right_r1, C_In, hc1, hc2]
  simp [-List.length_flatMap, -List.map_take, e_ref04_Right_r0, e_ref04_Right_r1, C_In, hc1, hc2]
theorem C_less {a b n : Int} (h1 : -2000000000 ≤ a ∧ a ≤ 2000000000) (h2 : -2000000000 ≤ b ∧ b ≤ 2000000000) (h3 : -2000000000 ≤ n ∧ n ≤ 2000000000) :
    lim T (.call false i_trial_Range_less [.agg [.int .i64 a, .int .i64 b], .int .i64 n] σ) = some (.val (.agg [.int .i64 (a - n), .int .i64 (b - n)]) σ) := by
  refine call_of T_trial_Range_less e_trial_Range_less rfl ?_
  have w1 := w64 (n := a - n) (by omega)
  have w2 := w64 (n := b - n) (by omega)
  simp [-List.length_flatMap, -List.map_take, e_trial_Range_less_r0, e_trial_Range_less_r1, w1, w2]
theorem C_span {a b c d : Int} : lim T (.call false i_trial_span [.agg [.int .i64 a, .int .i64 b], .agg [.int .i64 c, .int .i64 d]] σ) = some (.val (.agg [.int .i64 (min a c), .int .i64 (max b d)]) σ) := by
  refine call_of T_trial_span e_trial_span rfl ?_
  simp [-List.length_flatMap, -List.map_take, e_trial_span_r0, e_trial_span_r1]
theorem C_Span {a b c d : Int} : lim T (.call false i_ref04_Span [.agg [.int .i64 a, .int .i64 b], .agg [.int .i64 c, .int .i64 d]] σ) = some (.val (.agg [.int .i64 (min a c), .int .i64 (max b d)]) σ) := by
  refine call_of T_ref04_Span e_ref04_Span rfl ?_
  simp [-List.length_flatMap, -List.map_take, e_ref04_Span_r0, e_ref04_Span_r1]
theorem C_Range {a b : Int} : lim T (.call false i_law04_Range [.agg [.int .i64 a, .int .i64 b]] σ) = some (.val (.agg [.int .i64 a, .int .i64 b]) σ) := by
  refine call_of T_law04_Range e_law04_Range rfl ?_
  simp [-List.length_flatMap, -List.map_take, e_law04_Range_r0, e_law04_Range_r1]

/-- A curve and a flow that may stand in drawdowns; small ones or any. -/
structure Dr (a b c q : Int) : Prop where
  q : 0 ≤ q ∧ q ≤ 1000
  a : -2100000000 ≤ a ∧ a ≤ 2100000000
  b : 0 ≤ b ∧ b ≤ 10000
  c : 0 ≤ c ∧ c ≤ 1000
theorem Dr.bd {a b c q : Int} (h : Dr a b c q) : (0 ≤ b * q ∧ b * q ≤ 10000000) ∧ (0 ≤ c * q ∧ c * q ≤ 1000000) ∧ (0 ≤ c * q * q ∧ c * q * q ≤ 1000000000) := by
  obtain ⟨h1, h2, h3, _⟩ := drop_bound (a := 0) (by omega) h.b h.c h.q
  exact ⟨h1, h2, h3⟩
theorem C_drop {a b c q : Int} (h : Dr a b c q) : lim T (.call false i_trial_Curve_drop [.agg [.int .i64 a, .int .i64 b, .int .i64 c], .int .i64 q] σ) = some (.val (.int .i64 (Cv.drop ⟨a, b, c⟩ q)) σ) := by
  refine call_of T_trial_Curve_drop e_trial_Curve_drop rfl ?_
  obtain ⟨h1, h2, h3⟩ := h.bd
  have h4 := h.a
  have w1 := w64 (n := b * q) (by omega)
  have w2 := w64 (n := a + b * q) (by omega)
  have w3 := w64 (n := c * q) (by omega)
  have w4 := w64 (n := c * q * q) (by omega)
  have w5 := w64 (n := a + b * q + c * q * q) (by omega)
  simp [-List.length_flatMap, -List.map_take, e_trial_Curve_drop_r0, e_trial_Curve_drop_r1, w1, w2, w3, w4, w5, Cv.drop]
theorem C_Drop {a b c q : Int} (h : Dr a b c q) : lim T (.call false i_ref04_Drop [.agg [.int .i64 a, .int .i64 b, .int .i64 c], .int .i64 q] σ) = some (.val (.int .i64 (Cv.drop ⟨a, b, c⟩ q)) σ) := by
  refine call_of T_ref04_Drop e_ref04_Drop rfl ?_
  obtain ⟨h1, h2, h3⟩ := h.bd
  have h4 := h.a
  have w1 := w64 (n := b * q) (by omega)
  have w2 := w64 (n := a + b * q) (by omega)
  have w3 := w64 (n := c * q) (by omega)
  have w4 := w64 (n := c * q * q) (by omega)
  have w5 := w64 (n := a + b * q + c * q * q) (by omega)
  simp [-List.length_flatMap, -List.map_take, e_ref04_Drop_r0, e_ref04_Drop_r1, w1, w2, w3, w4, w5, Cv.drop]

theorem L_meet {l : List Rg} (hl : l.length ≤ 100) : ∀ (m i : Nat) (r : Rg), i + m = l.length →
    WL T [2, 3, 10, 11, 12] false f_trial_meet_l7 [(2, .own 0 [.int .i64 0, .int .i64 0]), (3, .own 0 r.enc), (10, .lst l.length (l.flatMap Rg.enc)), (11, .int .i64 l.length), (12, .int .i64 i)] σ
      (fun x e σ' => σ' = σ ∧ x = .exit 0 ∧ get e 2 = .own 0 [.int .i64 0, .int .i64 0] ∧ get e 3 = .own 0 ((l.drop i).foldl meet r).enc)
  | 0, i, r, hi => by
    refine WL_step e_trial_meet_l7 ?_
    have h1 : ¬ i < l.length := by omega
    have h2 : l.drop i = [] := List.drop_eq_nil_of_le (by omega)
    simp [-List.length_flatMap, -List.map_take, e_trial_meet_r0, e_trial_meet_r1, e_trial_meet_r2, e_trial_meet_r3, e_trial_meet_r4, e_trial_meet_r5, e_trial_meet_r6, e_trial_meet_r8, h1, h2]
  | m + 1, i, r, hi => by
    refine WL_step e_trial_meet_l7 ?_
    have h1 : i < l.length := by omega
    obtain ⟨x, hx⟩ : ∃ x, l[i]? = some x := ⟨_, List.getElem?_eq_getElem h1⟩
    have h2 := flat_at (f := Rg.enc) (w := 2) (fun _ => rfl) hx
    have h4 := wnext h1 (by omega)
    have h5 : l.drop i = x :: l.drop (i + 1) := by
      rw [List.drop_eq_getElem_cons h1]
      rw [List.getElem?_eq_getElem h1] at hx; cases hx; rfl
    have ih := L_meet hl m (i + 1) (meet r x) (by omega)
    simp [-List.length_flatMap, -List.map_take, e_trial_meet_r0, e_trial_meet_r1, e_trial_meet_r2, e_trial_meet_r3, e_trial_meet_r4, e_trial_meet_r5, e_trial_meet_r6, e_trial_meet_r8, h1, h2, h4]
    refine WL.to ih (by simp [meet]) rfl ?_
    rintro x' e σ' ⟨rfl, rfl, g1, g2⟩
    rw [h5]
    simp [g1, g2]
theorem C_meet {x : Rg} {l : List Rg} (hl : l.length ≤ 50) : lim T (.call false i_trial_meet [.lst (l.length + 1) (x.enc ++ l.flatMap Rg.enc)] σ) = some (.val (.agg (l.foldl meet x).enc) σ) := by
  refine call_of T_trial_meet e_trial_meet rfl ?_
  have h1 : (1 : Int) ≤ (l.length : Int) + 1 := by omega
  have h2 := k_self (f := Rg.enc) (w := 2) (fun _ => rfl) l
  simp [-List.length_flatMap, -List.map_take, e_trial_meet_r0, e_trial_meet_r1, e_trial_meet_r2, e_trial_meet_r3, e_trial_meet_r4, e_trial_meet_r5, e_trial_meet_r6, e_trial_meet_r8, h1, h2]
  refine WL.to (L_meet (σ := [] :: σ) (l := l) (by omega) l.length 0 x (by omega)) (by simp) rfl ?_
  rintro x' e σ' ⟨rfl, rfl, g1, g2⟩
  simp [-List.length_flatMap, -List.map_take, e_trial_meet_r0, e_trial_meet_r1, e_trial_meet_r2, e_trial_meet_r3, e_trial_meet_r4, e_trial_meet_r5, e_trial_meet_r6, e_trial_meet_r8, g1, g2]

theorem L_steps {t : Test} (hl : t.st.length ≤ 100000) : ∀ (m i : Nat), i + m = t.st.length →
    WL T [46, 47, 48] false f_trial_CheckTest_l11 [(46, .lst t.st.length (t.st.flatMap Step.enc)), (47, .int .i64 t.st.length), (48, .int .i64 i)] σ
      (fun x e σ' => σ' = σ ∧ if allB (t.st.drop i) Step.ok then x = .exit 0 else x = .ret ∧ get e 2 = .int .i64 1)
  | 0, i, hi => by
    refine WL_step e_trial_CheckTest_l11 ?_
    have h1 : ¬ i < t.st.length := by omega
    have h2 : t.st.drop i = [] := List.drop_eq_nil_of_le (by omega)
    simp [-List.length_flatMap, -List.map_take, e_trial_CheckTest_r0, e_trial_CheckTest_r1, e_trial_CheckTest_r2, e_trial_CheckTest_r3, e_trial_CheckTest_r4, e_trial_CheckTest_r5, e_trial_CheckTest_r6, e_trial_CheckTest_r7, e_trial_CheckTest_r8, e_trial_CheckTest_r9, e_trial_CheckTest_r10, e_trial_CheckTest_r12, h1, h2, allB]
  | m + 1, i, hi => by
    refine WL_step e_trial_CheckTest_l11 ?_
    have h1 : i < t.st.length := by omega
    obtain ⟨x, hx⟩ : ∃ x, t.st[i]? = some x := ⟨_, List.getElem?_eq_getElem h1⟩
    have h2 := flat_at (f := Step.enc) (w := 3) (fun _ => rfl) hx
    have h4 := wnext h1 (by omega)
    have h5 : t.st.drop i = x :: t.st.drop (i + 1) := by
      rw [List.drop_eq_getElem_cons h1]
      rw [List.getElem?_eq_getElem h1] at hx; cases hx; rfl
    have ih := L_steps hl m (i + 1) (by omega)
    have h6 : allB (t.st.drop i) Step.ok = ((inn x.q 0 1000 && x.d.drops) && allB (t.st.drop (i + 1)) Step.ok) := by rw [h5]; rfl
    rw [h6]
    cases hc1 : inn x.q 0 1000
    · simp [-List.length_flatMap, -List.map_take, e_trial_CheckTest_r0, e_trial_CheckTest_r1, e_trial_CheckTest_r2, e_trial_CheckTest_r3, e_trial_CheckTest_r4, e_trial_CheckTest_r5, e_trial_CheckTest_r6, e_trial_CheckTest_r7, e_trial_CheckTest_r8, e_trial_CheckTest_r9, e_trial_CheckTest_r10, e_trial_CheckTest_r12, h1, h2, h4, C_within, hc1, Step.ok]
    · cases hc2 : x.d.drops
      · simp [-List.length_flatMap, -List.map_take, e_trial_CheckTest_r0, e_trial_CheckTest_r1, e_trial_CheckTest_r2, e_trial_CheckTest_r3, e_trial_CheckTest_r4, e_trial_CheckTest_r5, e_trial_CheckTest_r6, e_trial_CheckTest_r7, e_trial_CheckTest_r8, e_trial_CheckTest_r9, e_trial_CheckTest_r10, e_trial_CheckTest_r12, h1, h2, h4, C_within, C_drops, hc1, hc2, Step.ok]
      · simp [-List.length_flatMap, -List.map_take, e_trial_CheckTest_r0, e_trial_CheckTest_r1, e_trial_CheckTest_r2, e_trial_CheckTest_r3, e_trial_CheckTest_r4, e_trial_CheckTest_r5, e_trial_CheckTest_r6, e_trial_CheckTest_r7, e_trial_CheckTest_r8, e_trial_CheckTest_r9, e_trial_CheckTest_r10, e_trial_CheckTest_r12, h1, h2, h4, C_within, C_drops, hc1, hc2, Step.ok]
        exact WL.to ih (by simp) rfl fun x e σ' hh => hh
theorem right_iff {r : Rg} {lo hi : Int} : r.right lo hi = true ↔ lo ≤ r.lo ∧ r.lo ≤ r.hi ∧ r.hi ≤ hi := by simp [Rg.right]
theorem C_check {t : Test} (hl : t.st.length ≤ 100000) : lim T (.call false i_trial_CheckTest [.agg [.int .i64 t.a.lo, .int .i64 t.a.hi, .int .i64 t.b.lo, .int .i64 t.b.hi, .int .i64 t.c.lo, .int .i64 t.c.hi, .lst t.st.length (t.st.flatMap Step.enc)]] σ) = some (.val (.int .i64 (fault t)) σ) := by
  refine call_of T_trial_CheckTest e_trial_CheckTest rfl ?_
  unfold fault boxOk
  by_cases h0 : 12 < t.st.length
  · have h0' : (12 : Int) < t.st.length := by omega
    simp [-List.length_flatMap, -List.map_take, e_trial_CheckTest_r0, e_trial_CheckTest_r1, e_trial_CheckTest_r2, e_trial_CheckTest_r3, e_trial_CheckTest_r4, e_trial_CheckTest_r5, e_trial_CheckTest_r6, e_trial_CheckTest_r7, e_trial_CheckTest_r8, e_trial_CheckTest_r9, e_trial_CheckTest_r10, e_trial_CheckTest_r12, h0, h0']
  have h0' : ¬ (12 : Int) < t.st.length := by omega
  cases ha : t.a.right 0 100000
  · simp [-List.length_flatMap, -List.map_take, e_trial_CheckTest_r0, e_trial_CheckTest_r1, e_trial_CheckTest_r2, e_trial_CheckTest_r3, e_trial_CheckTest_r4, e_trial_CheckTest_r5, e_trial_CheckTest_r6, e_trial_CheckTest_r7, e_trial_CheckTest_r8, e_trial_CheckTest_r9, e_trial_CheckTest_r10, e_trial_CheckTest_r12, h0, h0', C_right, ha]
  cases hb : t.b.right 0 10000
  · simp [-List.length_flatMap, -List.map_take, e_trial_CheckTest_r0, e_trial_CheckTest_r1, e_trial_CheckTest_r2, e_trial_CheckTest_r3, e_trial_CheckTest_r4, e_trial_CheckTest_r5, e_trial_CheckTest_r6, e_trial_CheckTest_r7, e_trial_CheckTest_r8, e_trial_CheckTest_r9, e_trial_CheckTest_r10, e_trial_CheckTest_r12, h0, h0', C_right, ha, hb]
  have hb' := right_iff.1 hb
  have w1 := w64 (n := t.b.hi - t.b.lo) (by omega)
  cases hc : t.c.right 0 1000
  · simp [-List.length_flatMap, -List.map_take, e_trial_CheckTest_r0, e_trial_CheckTest_r1, e_trial_CheckTest_r2, e_trial_CheckTest_r3, e_trial_CheckTest_r4, e_trial_CheckTest_r5, e_trial_CheckTest_r6, e_trial_CheckTest_r7, e_trial_CheckTest_r8, e_trial_CheckTest_r9, e_trial_CheckTest_r10, e_trial_CheckTest_r12, h0, h0', C_right, ha, hb, hc]
  have hc' := right_iff.1 hc
  have w2 := w64 (n := t.c.hi - t.c.lo) (by omega)
  by_cases h1 : t.b.hi - t.b.lo < 40
  rotate_left
  · simp [-List.length_flatMap, -List.map_take, e_trial_CheckTest_r0, e_trial_CheckTest_r1, e_trial_CheckTest_r2, e_trial_CheckTest_r3, e_trial_CheckTest_r4, e_trial_CheckTest_r5, e_trial_CheckTest_r6, e_trial_CheckTest_r7, e_trial_CheckTest_r8, e_trial_CheckTest_r9, e_trial_CheckTest_r10, e_trial_CheckTest_r12, h0, h0', C_right, ha, hb, hc, w1, w2, h1, show 40 ≤ t.b.hi - t.b.lo by omega]
  by_cases h2 : t.c.hi - t.c.lo < 40
  rotate_left
  · simp [-List.length_flatMap, -List.map_take, e_trial_CheckTest_r0, e_trial_CheckTest_r1, e_trial_CheckTest_r2, e_trial_CheckTest_r3, e_trial_CheckTest_r4, e_trial_CheckTest_r5, e_trial_CheckTest_r6, e_trial_CheckTest_r7, e_trial_CheckTest_r8, e_trial_CheckTest_r9, e_trial_CheckTest_r10, e_trial_CheckTest_r12, h0, h0', C_right, ha, hb, hc, w1, w2, h1, h2, show ¬ 40 ≤ t.b.hi - t.b.lo by omega, show 40 ≤ t.c.hi - t.c.lo by omega]
  simp [-List.length_flatMap, -List.map_take, e_trial_CheckTest_r0, e_trial_CheckTest_r1, e_trial_CheckTest_r2, e_trial_CheckTest_r3, e_trial_CheckTest_r4, e_trial_CheckTest_r5, e_trial_CheckTest_r6, e_trial_CheckTest_r7, e_trial_CheckTest_r8, e_trial_CheckTest_r9, e_trial_CheckTest_r10, e_trial_CheckTest_r12, h0, h0', C_right, ha, hb, hc, w1, w2, h1, h2, show ¬ 40 ≤ t.b.hi - t.b.lo by omega, show ¬ 40 ≤ t.c.hi - t.c.lo by omega]
  refine WL.to (L_steps (σ := [] :: σ) hl t.st.length 0 (by omega)) (by simp) rfl ?_
  rintro x e σ' ⟨rfl, hx⟩
  simp only [List.drop_zero] at hx
  cases hA : allB t.st Step.ok
  · rw [hA] at hx
    simp only [Bool.false_eq_true, if_false] at hx
    obtain ⟨rfl, g⟩ := hx
    simp [-List.length_flatMap, -List.map_take, e_trial_CheckTest_r0, e_trial_CheckTest_r1, e_trial_CheckTest_r2, e_trial_CheckTest_r3, e_trial_CheckTest_r4, e_trial_CheckTest_r5, e_trial_CheckTest_r6, e_trial_CheckTest_r7, e_trial_CheckTest_r8, e_trial_CheckTest_r9, e_trial_CheckTest_r10, e_trial_CheckTest_r12, g, h0]
  · rw [hA] at hx
    simp only [if_true] at hx
    subst hx
    simp [-List.length_flatMap, -List.map_take, e_trial_CheckTest_r0, e_trial_CheckTest_r1, e_trial_CheckTest_r2, e_trial_CheckTest_r3, e_trial_CheckTest_r4, e_trial_CheckTest_r5, e_trial_CheckTest_r6, e_trial_CheckTest_r7, e_trial_CheckTest_r8, e_trial_CheckTest_r9, e_trial_CheckTest_r10, e_trial_CheckTest_r12, h0, h1, h2]

theorem L_Steps {t : Test} (hl : t.st.length ≤ 100000) : ∀ (m i : Nat), i + m = t.st.length →
    WL T [1, 3] false f_ref04_TestFault_l10 [(1, .cref t.enc), (3, .int .i64 i)] σ
      (fun x e σ' => σ' = σ ∧ if allB (t.st.drop i) Step.ok then x = .exit 0 else x = .ret ∧ get e 2 = .int .i64 1)
  | 0, i, hi => by
    refine WL_step e_ref04_TestFault_l10 ?_
    have h1 : ¬ i < t.st.length := by omega
    have h2 : t.st.drop i = [] := List.drop_eq_nil_of_le (by omega)
    simp [-List.length_flatMap, -List.map_take, e_ref04_TestFault_r0, e_ref04_TestFault_r1, e_ref04_TestFault_r2, e_ref04_TestFault_r3, e_ref04_TestFault_r4, e_ref04_TestFault_r5, e_ref04_TestFault_r6, e_ref04_TestFault_r7, e_ref04_TestFault_r8, e_ref04_TestFault_r9, e_ref04_TestFault_r11, h1, h2, allB]
  | m + 1, i, hi => by
    refine WL_step e_ref04_TestFault_l10 ?_
    have h1 : i < t.st.length := by omega
    obtain ⟨x, hx⟩ : ∃ x, t.st[i]? = some x := ⟨_, List.getElem?_eq_getElem h1⟩
    have h2 := flat_at (f := Step.enc) (w := 3) (fun _ => rfl) hx
    have h4 := wnext h1 (by omega)
    have h5 : t.st.drop i = x :: t.st.drop (i + 1) := by
      rw [List.drop_eq_getElem_cons h1]
      rw [List.getElem?_eq_getElem h1] at hx; cases hx; rfl
    have ih := L_Steps hl m (i + 1) (by omega)
    have h6 : allB (t.st.drop i) Step.ok = ((inn x.q 0 1000 && x.d.right (-2000000000) 2000000000) && allB (t.st.drop (i + 1)) Step.ok) := by rw [h5]; rfl
    rw [h6]
    cases hc1 : inn x.q 0 1000
    · simp [-List.length_flatMap, -List.map_take, e_ref04_TestFault_r0, e_ref04_TestFault_r1, e_ref04_TestFault_r2, e_ref04_TestFault_r3, e_ref04_TestFault_r4, e_ref04_TestFault_r5, e_ref04_TestFault_r6, e_ref04_TestFault_r7, e_ref04_TestFault_r8, e_ref04_TestFault_r9, e_ref04_TestFault_r11, h1, h2, h4, C_In, hc1]
    · cases hc2 : x.d.right (-2000000000) 2000000000
      · simp [-List.length_flatMap, -List.map_take, e_ref04_TestFault_r0, e_ref04_TestFault_r1, e_ref04_TestFault_r2, e_ref04_TestFault_r3, e_ref04_TestFault_r4, e_ref04_TestFault_r5, e_ref04_TestFault_r6, e_ref04_TestFault_r7, e_ref04_TestFault_r8, e_ref04_TestFault_r9, e_ref04_TestFault_r11, h1, h2, h4, C_In, C_Right, hc1, hc2]
      · simp [-List.length_flatMap, -List.map_take, e_ref04_TestFault_r0, e_ref04_TestFault_r1, e_ref04_TestFault_r2, e_ref04_TestFault_r3, e_ref04_TestFault_r4, e_ref04_TestFault_r5, e_ref04_TestFault_r6, e_ref04_TestFault_r7, e_ref04_TestFault_r8, e_ref04_TestFault_r9, e_ref04_TestFault_r11, h1, h2, h4, C_In, C_Right, hc1, hc2]
        exact WL.to ih (by simp) rfl fun x e σ' hh => hh
theorem C_Fault {t : Test} (hl : t.st.length ≤ 100000) : lim T (.call false i_ref04_TestFault [.agg [.int .i64 t.a.lo, .int .i64 t.a.hi, .int .i64 t.b.lo, .int .i64 t.b.hi, .int .i64 t.c.lo, .int .i64 t.c.hi, .lst t.st.length (t.st.flatMap Step.enc)]] σ) = some (.val (.int .i64 (fault t)) σ) := by
  refine call_of T_ref04_TestFault e_ref04_TestFault rfl ?_
  unfold fault boxOk
  by_cases h0 : 12 < t.st.length
  · have h0' : (12 : Int) < t.st.length := by omega
    simp [-List.length_flatMap, -List.map_take, e_ref04_TestFault_r0, e_ref04_TestFault_r1, e_ref04_TestFault_r2, e_ref04_TestFault_r3, e_ref04_TestFault_r4, e_ref04_TestFault_r5, e_ref04_TestFault_r6, e_ref04_TestFault_r7, e_ref04_TestFault_r8, e_ref04_TestFault_r9, e_ref04_TestFault_r11, h0, h0']
  have h0' : ¬ (12 : Int) < t.st.length := by omega
  cases ha : t.a.right 0 100000
  · simp [-List.length_flatMap, -List.map_take, e_ref04_TestFault_r0, e_ref04_TestFault_r1, e_ref04_TestFault_r2, e_ref04_TestFault_r3, e_ref04_TestFault_r4, e_ref04_TestFault_r5, e_ref04_TestFault_r6, e_ref04_TestFault_r7, e_ref04_TestFault_r8, e_ref04_TestFault_r9, e_ref04_TestFault_r11, h0, h0', C_Right, ha]
  cases hb : t.b.right 0 10000
  · simp [-List.length_flatMap, -List.map_take, e_ref04_TestFault_r0, e_ref04_TestFault_r1, e_ref04_TestFault_r2, e_ref04_TestFault_r3, e_ref04_TestFault_r4, e_ref04_TestFault_r5, e_ref04_TestFault_r6, e_ref04_TestFault_r7, e_ref04_TestFault_r8, e_ref04_TestFault_r9, e_ref04_TestFault_r11, h0, h0', C_Right, ha, hb]
  have hb' := right_iff.1 hb
  have w1 := w64 (n := t.b.hi - t.b.lo) (by omega)
  cases hc : t.c.right 0 1000
  · simp [-List.length_flatMap, -List.map_take, e_ref04_TestFault_r0, e_ref04_TestFault_r1, e_ref04_TestFault_r2, e_ref04_TestFault_r3, e_ref04_TestFault_r4, e_ref04_TestFault_r5, e_ref04_TestFault_r6, e_ref04_TestFault_r7, e_ref04_TestFault_r8, e_ref04_TestFault_r9, e_ref04_TestFault_r11, h0, h0', C_Right, ha, hb, hc]
  have hc' := right_iff.1 hc
  have w2 := w64 (n := t.c.hi - t.c.lo) (by omega)
  by_cases h1 : t.b.hi - t.b.lo < 40
  rotate_left
  · simp [-List.length_flatMap, -List.map_take, e_ref04_TestFault_r0, e_ref04_TestFault_r1, e_ref04_TestFault_r2, e_ref04_TestFault_r3, e_ref04_TestFault_r4, e_ref04_TestFault_r5, e_ref04_TestFault_r6, e_ref04_TestFault_r7, e_ref04_TestFault_r8, e_ref04_TestFault_r9, e_ref04_TestFault_r11, h0, h0', C_Right, ha, hb, hc, w1, w2, h1, show 39 < t.b.hi - t.b.lo by omega]
  by_cases h2 : t.c.hi - t.c.lo < 40
  rotate_left
  · simp [-List.length_flatMap, -List.map_take, e_ref04_TestFault_r0, e_ref04_TestFault_r1, e_ref04_TestFault_r2, e_ref04_TestFault_r3, e_ref04_TestFault_r4, e_ref04_TestFault_r5, e_ref04_TestFault_r6, e_ref04_TestFault_r7, e_ref04_TestFault_r8, e_ref04_TestFault_r9, e_ref04_TestFault_r11, h0, h0', C_Right, ha, hb, hc, w1, w2, h1, h2, show ¬ 39 < t.b.hi - t.b.lo by omega, show 39 < t.c.hi - t.c.lo by omega]
  simp [-List.length_flatMap, -List.map_take, e_ref04_TestFault_r0, e_ref04_TestFault_r1, e_ref04_TestFault_r2, e_ref04_TestFault_r3, e_ref04_TestFault_r4, e_ref04_TestFault_r5, e_ref04_TestFault_r6, e_ref04_TestFault_r7, e_ref04_TestFault_r8, e_ref04_TestFault_r9, e_ref04_TestFault_r11, h0, h0', C_Right, ha, hb, hc, w1, w2, h1, h2, show ¬ 39 < t.b.hi - t.b.lo by omega, show ¬ 39 < t.c.hi - t.c.lo by omega]
  refine WL.to (L_Steps (σ := [] :: σ) hl t.st.length 0 (by omega)) (by simp) rfl ?_
  rintro x e σ' ⟨rfl, hx⟩
  simp only [List.drop_zero] at hx
  cases hA : allB t.st Step.ok
  · rw [hA] at hx
    simp only [Bool.false_eq_true, if_false] at hx
    obtain ⟨rfl, g⟩ := hx
    simp [-List.length_flatMap, -List.map_take, e_ref04_TestFault_r0, e_ref04_TestFault_r1, e_ref04_TestFault_r2, e_ref04_TestFault_r3, e_ref04_TestFault_r4, e_ref04_TestFault_r5, e_ref04_TestFault_r6, e_ref04_TestFault_r7, e_ref04_TestFault_r8, e_ref04_TestFault_r9, e_ref04_TestFault_r11, g, h0]
  · rw [hA] at hx
    simp only [if_true] at hx
    subst hx
    simp [-List.length_flatMap, -List.map_take, e_ref04_TestFault_r0, e_ref04_TestFault_r1, e_ref04_TestFault_r2, e_ref04_TestFault_r3, e_ref04_TestFault_r4, e_ref04_TestFault_r5, e_ref04_TestFault_r6, e_ref04_TestFault_r7, e_ref04_TestFault_r8, e_ref04_TestFault_r9, e_ref04_TestFault_r11, h0, h1, h2]

/-- Does a curve agree? -/
def agB (t : Test) (c : Cv) : Bool := inn c.a t.a.lo t.a.hi && (inn c.b t.b.lo t.b.hi && inn c.c t.c.lo t.c.hi)
def agS (c : Cv) (s : Step) : Bool := inn (c.drop s.q) s.d.lo s.d.hi
theorem ag_dr {t : Test} (h : Tv t) {a b c : Int} (ha : agB t ⟨a, b, c⟩ = true) {s : Step} (hs : s ∈ t.st) : Dr a b c s.q := by
  simp only [agB, Bool.and_eq_true, inn_iff] at ha
  have h1 := h.a; have h2 := h.b; have h3 := h.c; have h4 := h.s s hs
  exact ⟨h4.1, by omega, by omega, by omega⟩
theorem L_agrees {t : Test} (h : Tv t) {a b c : Int} (ha : agB t ⟨a, b, c⟩ = true) : ∀ (m i : Nat), i + m = t.st.length →
    WL T [3, 35, 36, 37] false f_trial_Agrees_l9 [(3, .cref [.int .i64 a, .int .i64 b, .int .i64 c]), (35, .lst t.st.length (t.st.flatMap Step.enc)), (36, .int .i64 t.st.length), (37, .int .i64 i)] σ
      (fun x e σ' => σ' = σ ∧ if allB (t.st.drop i) (agS ⟨a, b, c⟩) then x = .exit 0 else x = .ret ∧ get e 4 = .bool false)
  | 0, i, hi => by
    refine WL_step e_trial_Agrees_l9 ?_
    have h1 : ¬ i < t.st.length := by omega
    have h2 : t.st.drop i = [] := List.drop_eq_nil_of_le (by omega)
    simp [-List.length_flatMap, -List.map_take, e_trial_Agrees_r0, e_trial_Agrees_r1, e_trial_Agrees_r2, e_trial_Agrees_r3, e_trial_Agrees_r4, e_trial_Agrees_r5, e_trial_Agrees_r6, e_trial_Agrees_r7, e_trial_Agrees_r8, e_trial_Agrees_r10, h1, h2, allB]
  | m + 1, i, hi => by
    refine WL_step e_trial_Agrees_l9 ?_
    have h1 : i < t.st.length := by omega
    obtain ⟨x, hx⟩ : ∃ x, t.st[i]? = some x := ⟨_, List.getElem?_eq_getElem h1⟩
    have h2 := flat_at (f := Step.enc) (w := 3) (fun _ => rfl) hx
    have hn := h.n
    have h4 := wnext h1 (by omega)
    have h5 : t.st.drop i = x :: t.st.drop (i + 1) := by
      rw [List.drop_eq_getElem_cons h1]
      rw [List.getElem?_eq_getElem h1] at hx; cases hx; rfl
    have ih := L_agrees h ha m (i + 1) (by omega)
    have hd := fun σ => @C_drop σ a b c x.q (ag_dr h ha (List.mem_of_getElem? hx))
    have h6 : allB (t.st.drop i) (agS ⟨a, b, c⟩) = (inn (Cv.drop ⟨a, b, c⟩ x.q) x.d.lo x.d.hi && allB (t.st.drop (i + 1)) (agS ⟨a, b, c⟩)) := by rw [h5]; rfl
    rw [h6]
    cases hc1 : inn (Cv.drop ⟨a, b, c⟩ x.q) x.d.lo x.d.hi
    · simp [-List.length_flatMap, -List.map_take, e_trial_Agrees_r0, e_trial_Agrees_r1, e_trial_Agrees_r2, e_trial_Agrees_r3, e_trial_Agrees_r4, e_trial_Agrees_r5, e_trial_Agrees_r6, e_trial_Agrees_r7, e_trial_Agrees_r8, e_trial_Agrees_r10, h1, h2, h4, hd, C_has, hc1]
    · simp [-List.length_flatMap, -List.map_take, e_trial_Agrees_r0, e_trial_Agrees_r1, e_trial_Agrees_r2, e_trial_Agrees_r3, e_trial_Agrees_r4, e_trial_Agrees_r5, e_trial_Agrees_r6, e_trial_Agrees_r7, e_trial_Agrees_r8, e_trial_Agrees_r10, h1, h2, h4, hd, C_has, hc1]
      exact WL.to ih (by simp) rfl fun x e σ' hh => hh
def agT (t : Test) (c : Cv) : Bool := decide (fault t = 0) && (agB t c && allB t.st (agS c))
theorem C_agrees {t : Test} (hl : t.st.length ≤ 100000) {a b c : Int} : lim T (.call false i_trial_Agrees [.agg [.int .i64 t.a.lo, .int .i64 t.a.hi, .int .i64 t.b.lo, .int .i64 t.b.hi, .int .i64 t.c.lo, .int .i64 t.c.hi, .lst t.st.length (t.st.flatMap Step.enc)], .agg [.int .i64 a, .int .i64 b, .int .i64 c]] σ) = some (.val (.bool (agT t ⟨a, b, c⟩)) σ) := by
  refine call_of T_trial_Agrees e_trial_Agrees rfl ?_
  have hf := fun σ => @C_check σ t hl
  by_cases h0 : fault t = 0
  rotate_left
  · simp [-List.length_flatMap, -List.map_take, e_trial_Agrees_r0, e_trial_Agrees_r1, e_trial_Agrees_r2, e_trial_Agrees_r3, e_trial_Agrees_r4, e_trial_Agrees_r5, e_trial_Agrees_r6, e_trial_Agrees_r7, e_trial_Agrees_r8, e_trial_Agrees_r10, hf, h0, agT]
  have hv := fault_tv h0
  unfold agT
  cases h1 : inn a t.a.lo t.a.hi
  · simp [-List.length_flatMap, -List.map_take, e_trial_Agrees_r0, e_trial_Agrees_r1, e_trial_Agrees_r2, e_trial_Agrees_r3, e_trial_Agrees_r4, e_trial_Agrees_r5, e_trial_Agrees_r6, e_trial_Agrees_r7, e_trial_Agrees_r8, e_trial_Agrees_r10, hf, h0, C_has, h1, agB]
  cases h2 : inn b t.b.lo t.b.hi
  · simp [-List.length_flatMap, -List.map_take, e_trial_Agrees_r0, e_trial_Agrees_r1, e_trial_Agrees_r2, e_trial_Agrees_r3, e_trial_Agrees_r4, e_trial_Agrees_r5, e_trial_Agrees_r6, e_trial_Agrees_r7, e_trial_Agrees_r8, e_trial_Agrees_r10, hf, h0, C_has, h1, h2, agB]
  cases h3 : inn c t.c.lo t.c.hi
  · simp [-List.length_flatMap, -List.map_take, e_trial_Agrees_r0, e_trial_Agrees_r1, e_trial_Agrees_r2, e_trial_Agrees_r3, e_trial_Agrees_r4, e_trial_Agrees_r5, e_trial_Agrees_r6, e_trial_Agrees_r7, e_trial_Agrees_r8, e_trial_Agrees_r10, hf, h0, C_has, h1, h2, h3, agB]
  have hB : agB t ⟨a, b, c⟩ = true := by simp [agB, h1, h2, h3]
  simp [-List.length_flatMap, -List.map_take, e_trial_Agrees_r0, e_trial_Agrees_r1, e_trial_Agrees_r2, e_trial_Agrees_r3, e_trial_Agrees_r4, e_trial_Agrees_r5, e_trial_Agrees_r6, e_trial_Agrees_r7, e_trial_Agrees_r8, e_trial_Agrees_r10, hf, h0, C_has, h1, h2, h3, hB]
  refine WL.to (L_agrees (σ := [] :: σ) hv hB t.st.length 0 (by omega)) (by simp) rfl ?_
  rintro x e σ' ⟨rfl, hx⟩
  simp only [List.drop_zero] at hx
  cases hA : allB t.st (agS ⟨a, b, c⟩)
  · rw [hA] at hx
    simp only [Bool.false_eq_true, if_false] at hx
    obtain ⟨rfl, g⟩ := hx
    simp [-List.length_flatMap, -List.map_take, e_trial_Agrees_r0, e_trial_Agrees_r1, e_trial_Agrees_r2, e_trial_Agrees_r3, e_trial_Agrees_r4, e_trial_Agrees_r5, e_trial_Agrees_r6, e_trial_Agrees_r7, e_trial_Agrees_r8, e_trial_Agrees_r10, g]
  · rw [hA] at hx
    simp only [if_true] at hx
    subst hx
    simp [-List.length_flatMap, -List.map_take, e_trial_Agrees_r0, e_trial_Agrees_r1, e_trial_Agrees_r2, e_trial_Agrees_r3, e_trial_Agrees_r4, e_trial_Agrees_r5, e_trial_Agrees_r6, e_trial_Agrees_r7, e_trial_Agrees_r8, e_trial_Agrees_r10, h0, hB]
theorem L_Agrees {t : Test} (h : Tv t) {a b c : Int} (ha : agB t ⟨a, b, c⟩ = true) : ∀ (m i : Nat), i + m = t.st.length →
    WL T [2, 3, 5] false f_ref04_Agrees_l8 [(2, .cref t.enc), (3, .cref [.int .i64 a, .int .i64 b, .int .i64 c]), (5, .int .i64 i)] σ
      (fun x e σ' => σ' = σ ∧ if allB (t.st.drop i) (agS ⟨a, b, c⟩) then x = .exit 0 else x = .ret ∧ get e 4 = .bool false)
  | 0, i, hi => by
    refine WL_step e_ref04_Agrees_l8 ?_
    have h1 : ¬ i < t.st.length := by omega
    have h2 : t.st.drop i = [] := List.drop_eq_nil_of_le (by omega)
    simp [-List.length_flatMap, -List.map_take, e_ref04_Agrees_r0, e_ref04_Agrees_r1, e_ref04_Agrees_r2, e_ref04_Agrees_r3, e_ref04_Agrees_r4, e_ref04_Agrees_r5, e_ref04_Agrees_r6, e_ref04_Agrees_r7, e_ref04_Agrees_r9, h1, h2, allB]
  | m + 1, i, hi => by
    refine WL_step e_ref04_Agrees_l8 ?_
    have h1 : i < t.st.length := by omega
    obtain ⟨x, hx⟩ : ∃ x, t.st[i]? = some x := ⟨_, List.getElem?_eq_getElem h1⟩
    have h2 := flat_at (f := Step.enc) (w := 3) (fun _ => rfl) hx
    have hn := h.n
    have h4 := wnext h1 (by omega)
    have h5 : t.st.drop i = x :: t.st.drop (i + 1) := by
      rw [List.drop_eq_getElem_cons h1]
      rw [List.getElem?_eq_getElem h1] at hx; cases hx; rfl
    have ih := L_Agrees h ha m (i + 1) (by omega)
    have hd := fun σ => @C_Drop σ a b c x.q (ag_dr h ha (List.mem_of_getElem? hx))
    have h6 : allB (t.st.drop i) (agS ⟨a, b, c⟩) = (inn (Cv.drop ⟨a, b, c⟩ x.q) x.d.lo x.d.hi && allB (t.st.drop (i + 1)) (agS ⟨a, b, c⟩)) := by rw [h5]; rfl
    rw [h6]
    cases hc1 : inn (Cv.drop ⟨a, b, c⟩ x.q) x.d.lo x.d.hi
    · simp [-List.length_flatMap, -List.map_take, e_ref04_Agrees_r0, e_ref04_Agrees_r1, e_ref04_Agrees_r2, e_ref04_Agrees_r3, e_ref04_Agrees_r4, e_ref04_Agrees_r5, e_ref04_Agrees_r6, e_ref04_Agrees_r7, e_ref04_Agrees_r9, h1, h2, h4, hd, C_In, hc1]
    · simp [-List.length_flatMap, -List.map_take, e_ref04_Agrees_r0, e_ref04_Agrees_r1, e_ref04_Agrees_r2, e_ref04_Agrees_r3, e_ref04_Agrees_r4, e_ref04_Agrees_r5, e_ref04_Agrees_r6, e_ref04_Agrees_r7, e_ref04_Agrees_r9, h1, h2, h4, hd, C_In, hc1]
      exact WL.to ih (by simp) rfl fun x e σ' hh => hh
theorem C_Agrees {t : Test} (h : Tv t) {a b c : Int} : lim T (.call false i_ref04_Agrees [.agg [.int .i64 t.a.lo, .int .i64 t.a.hi, .int .i64 t.b.lo, .int .i64 t.b.hi, .int .i64 t.c.lo, .int .i64 t.c.hi, .lst t.st.length (t.st.flatMap Step.enc)], .agg [.int .i64 a, .int .i64 b, .int .i64 c]] σ) = some (.val (.bool (agB t ⟨a, b, c⟩ && allB t.st (agS ⟨a, b, c⟩))) σ) := by
  refine call_of T_ref04_Agrees e_ref04_Agrees rfl ?_
  cases h1 : inn a t.a.lo t.a.hi
  · simp [-List.length_flatMap, -List.map_take, e_ref04_Agrees_r0, e_ref04_Agrees_r1, e_ref04_Agrees_r2, e_ref04_Agrees_r3, e_ref04_Agrees_r4, e_ref04_Agrees_r5, e_ref04_Agrees_r6, e_ref04_Agrees_r7, e_ref04_Agrees_r9, C_In, h1, agB]
  cases h2 : inn b t.b.lo t.b.hi
  · simp [-List.length_flatMap, -List.map_take, e_ref04_Agrees_r0, e_ref04_Agrees_r1, e_ref04_Agrees_r2, e_ref04_Agrees_r3, e_ref04_Agrees_r4, e_ref04_Agrees_r5, e_ref04_Agrees_r6, e_ref04_Agrees_r7, e_ref04_Agrees_r9, C_In, h1, h2, agB]
  cases h3 : inn c t.c.lo t.c.hi
  · simp [-List.length_flatMap, -List.map_take, e_ref04_Agrees_r0, e_ref04_Agrees_r1, e_ref04_Agrees_r2, e_ref04_Agrees_r3, e_ref04_Agrees_r4, e_ref04_Agrees_r5, e_ref04_Agrees_r6, e_ref04_Agrees_r7, e_ref04_Agrees_r9, C_In, h1, h2, h3, agB]
  have hB : agB t ⟨a, b, c⟩ = true := by simp [agB, h1, h2, h3]
  simp [-List.length_flatMap, -List.map_take, e_ref04_Agrees_r0, e_ref04_Agrees_r1, e_ref04_Agrees_r2, e_ref04_Agrees_r3, e_ref04_Agrees_r4, e_ref04_Agrees_r5, e_ref04_Agrees_r6, e_ref04_Agrees_r7, e_ref04_Agrees_r9, C_In, h1, h2, h3, hB]
  refine WL.to (L_Agrees (σ := [] :: σ) h hB t.st.length 0 (by omega)) (by simp) rfl ?_
  rintro x e σ' ⟨rfl, hx⟩
  simp only [List.drop_zero] at hx
  cases hA : allB t.st (agS ⟨a, b, c⟩)
  · rw [hA] at hx
    simp only [Bool.false_eq_true, if_false] at hx
    obtain ⟨rfl, g⟩ := hx
    simp [-List.length_flatMap, -List.map_take, e_ref04_Agrees_r0, e_ref04_Agrees_r1, e_ref04_Agrees_r2, e_ref04_Agrees_r3, e_ref04_Agrees_r4, e_ref04_Agrees_r5, e_ref04_Agrees_r6, e_ref04_Agrees_r7, e_ref04_Agrees_r9, g]
  · rw [hA] at hx
    simp only [if_true] at hx
    subst hx
    simp [-List.length_flatMap, -List.map_take, e_ref04_Agrees_r0, e_ref04_Agrees_r1, e_ref04_Agrees_r2, e_ref04_Agrees_r3, e_ref04_Agrees_r4, e_ref04_Agrees_r5, e_ref04_Agrees_r6, e_ref04_Agrees_r7, e_ref04_Agrees_r9, hB]
end Go.Proofs.Ytcjjdaifpboaaaa
