/-
  The law TrialEither answers true.
-/
import Derived.Test.YtcjjdaifpboaaaaH14
import Derived.Test.YtcjjdaifpboaaaaTrialPlain
set_option linter.unusedVariables false
set_option linter.unusedSimpArgs false
namespace Go.Proofs.Ytcjjdaifpboaaaa
open Go Go.Abs Go.Trial
variable {σ : Stack}

theorem conf_apart {t : Test} {b c : Int} {p : Int × Int} (h : conf t b c p = true) : apart (roomsOf t b c) ≠ none := by
  intro ha
  unfold apart at ha
  rw [apF_none _ 0 (by omega), List.drop_zero] at ha
  obtain ⟨i, j⟩ := p
  have h0 := h
  simp only [conf, Bool.and_eq_true, decide_eq_true_eq] at h0
  obtain ⟨hi, hj, _⟩ := h0
  obtain ⟨I, rfl⟩ : ∃ I : Nat, i = (I : Int) - 1 := ⟨(i + 1).toNat, by have := inn_iff.1 hi; omega⟩
  obtain ⟨J, rfl⟩ : ∃ J : Nat, j = (J : Int) - 1 := ⟨(j + 1).toNat, by have := inn_iff.1 hj; omega⟩
  have hI := inn_iff.1 hi
  have hJ := inn_iff.1 hj
  obtain ⟨x, hx⟩ : ∃ a, (roomsOf t b c)[I]? = some a := ⟨_, List.getElem?_eq_getElem (by rw [rooms_len]; omega)⟩
  obtain ⟨y, hy⟩ : ∃ a, (roomsOf t b c)[J]? = some a := ⟨_, List.getElem?_eq_getElem (by rw [rooms_len]; omega)⟩
  rw [conf_at hx hy, decide_eq_true_eq] at h
  have := ha x (List.mem_of_getElem? hx) y (List.mem_of_getElem? hy)
  omega
theorem shB_all {t : Test} {l : List (Int × Int)} : ∀ (ps : List (Int × Int)) (n : Nat), shB t l ps n = true → allC t ps = true
  | [], n, _ => rfl
  | p :: ps, n, h => by
    simp only [shB, Bool.and_eq_true] at h
    have ih := shB_all ps (n + 1) h.2
    have h1 := h.1
    unfold shA at h1
    cases hx : l[n]? with
    | none => rw [hx] at h1; cases h1
    | some x =>
      rw [hx] at h1
      have h2 := conf_apart h1
      have h3 : (apart (roomsOf t p.1 p.2)).isSome = true := by
        cases hq : apart (roomsOf t p.1 p.2) with
        | none => exact absurd hq h2
        | some q => rfl
      simp only [allC, List.all_cons, h3, Bool.true_and] at ih ⊢
      exact ih
theorem shows_none {t : Test} {l : List (Int × Int)} (h : (sets t).isEmpty = false) : shows t l = false := by
  cases hs : shows t l
  · rfl
  · simp only [shows, Bool.and_eq_true] at hs
    have := shB_all _ _ hs.1
    rw [allC_iff, h] at this
    cases this
theorem rowF_some {l : List Rg} {a : Rg} {k : Nat} : ∀ (m j : Nat), rowF l a m j = some k → ∃ x, l[k]? = some x ∧ x.hi < a.lo
  | 0, j, h => by cases h
  | m + 1, j, h => by
    cases hx : l[j]? with
    | none => simp [rowF, hx] at h
    | some x =>
      by_cases hc : x.hi < a.lo
      · simp only [rowF, hx, hc, if_true, Option.some.injEq] at h
        subst h
        exact ⟨x, hx, hc⟩
      · simp only [rowF, hx, hc, if_false] at h
        exact rowF_some m (j + 1) h
theorem apF_some {l : List Rg} {q : Nat × Nat} : ∀ (m i : Nat), apF l m i = some q → ∃ a x, l[q.1]? = some a ∧ l[q.2]? = some x ∧ x.hi < a.lo
  | 0, i, h => by cases h
  | m + 1, i, h => by
    cases hx : l[i]? with
    | none => simp [apF, hx] at h
    | some a =>
      cases hr : rowF l a l.length 0 with
      | none =>
        simp only [apF, hx, hr] at h
        exact apF_some m (i + 1) h
      | some k =>
        simp only [apF, hx, hr, Option.some.injEq] at h
        subst h
        obtain ⟨x, h1, h2⟩ := rowF_some _ _ hr
        exact ⟨a, x, hx, h1, h2⟩
theorem shB_own {t : Test} : ∀ (ps : List (Int × Int)) (l : List (Int × Int)) (n : Nat), allC t ps = true → l.drop n = ps.map (prAt t) → shB t l ps n = true
  | [], l, n, _, _ => rfl
  | p :: ps, l, n, ha, hl => by
    simp only [allC, List.all_cons, Bool.and_eq_true] at ha
    have hx : l[n]? = some (prAt t p) := by
      have h1 : (l.drop n)[0]? = some (prAt t p) := by rw [hl]; rfl
      rw [List.getElem?_drop] at h1
      simpa using h1
    have hd : l.drop (n + 1) = ps.map (prAt t) := by
      have h1 : (l.drop n).drop 1 = ps.map (prAt t) := by rw [hl]; rfl
      rwa [List.drop_drop] at h1
    have ih := shB_own ps l (n + 1) (by simpa [allC] using ha.2) hd
    have h2 : shA t l p n = true := by
      unfold shA
      rw [hx]
      dsimp only
      cases hq : apart (roomsOf t p.1 p.2) with
      | none => rw [hq] at ha; exact absurd ha.1 (by simp)
      | some q =>
        have e0 : prAt t p = ((q.1 : Int) - 1, (q.2 : Int) - 1) := by simp [prAt, hq, prOf]
        rw [e0]
        obtain ⟨x, y, h1, h2, h3⟩ := apF_some _ _ hq
        rw [conf_at h1 h2, decide_eq_true_eq]
        exact h3
    simp only [shB, h2, ih, Bool.and_self]
theorem shows_own {t : Test} (h : allC t (pairs t) = true) : shows t (prs t) = true := by
  simp only [shows, Bool.and_eq_true, decide_eq_true_eq]
  exact ⟨shB_own _ _ 0 h rfl, by simp [prs]⟩
theorem blF_spec {t : Test} : ∀ (m i k : Nat), blF t m i = some k → i ≤ k ∧ (∀ j, i ≤ j → j < k → sets (tk t (j + 1)) ≠ []) ∧ sets (tk t (k + 1)) = []
  | 0, i, k, h => by cases h
  | m + 1, i, k, h => by
    cases hs : (sets (tk t (i + 1))).isEmpty
    · simp only [blF, hs, Bool.false_eq_true, if_false] at h
      obtain ⟨h1, h2, h3⟩ := blF_spec m (i + 1) k h
      refine ⟨by omega, fun j hj hk => ?_, h3⟩
      by_cases he : j = i
      · subst he
        intro hh
        rw [hh] at hs
        cases hs
      · exact h2 j (by omega) hk
    · simp only [blF, hs, if_true, Option.some.injEq] at h
      subst h
      exact ⟨Nat.le_refl _, fun j h1 h2 => by omega, by simpa using hs⟩
theorem bl_spec {t : Test} (h : Tv t) {k : Nat} (hb : bl t = some k) : sets (tk t k) ≠ [] ∧ sets (tk t (k + 1)) = [] := by
  obtain ⟨_, h2, h3⟩ := blF_spec _ _ _ hb
  refine ⟨?_, h3⟩
  cases k with
  | zero => exact sets_box (tk_tv h 0) (by simp [tk])
  | succ k => exact h2 k (by omega) (by omega)
theorem ag_none {t : Test} {x : Cv} (h : sets t = []) : agT t x = false := by
  cases ha : agT t x
  · rfl
  · simp only [agT, agB, Bool.and_eq_true, inn_iff, allB_iff, agS] at ha
    have hA : Agr t x := ⟨ha.2.1.1, ha.2.1.2.1, ha.2.1.2.2, ha.2.2⟩
    have := agr_mem hA
    rw [h] at this
    simp at this
theorem tk_few (t : Test) (n : Nat) : Fewer (tk t n) t := ⟨rfl, rfl, rfl, fun s hs => List.mem_of_mem_take hs⟩
theorem ze {l : List (Int × Int)} : frz 0 16 (.sl 1 0 1 0 l.length 2) [[.cells 1 (l.flatMap prE)], []] = (.lst l.length (l.flatMap prE), [[.dead], []]) := k_frz (f := prE) (w := 2) (fun _ => rfl) (fun x => by simp) (σ := [[]]) (by simp) rfl
theorem law_Either {t : Test} {l : List (Int × Int)} {a b c : Int} : lim T (.call false i_law04_TrialEither [.agg [.int .i64 t.a.lo, .int .i64 t.a.hi, .int .i64 t.b.lo, .int .i64 t.b.hi, .int .i64 t.c.lo, .int .i64 t.c.hi, .lst t.st.length (t.st.flatMap Step.enc)], .lst l.length (l.flatMap prE), .agg [.int .i64 a, .int .i64 b, .int .i64 c]] [[]]) = some (.val (.bool true) [[]]) := by
  refine call_of T_law04_TrialEither e_law04_TrialEither rfl ?_
  by_cases hl : t.st.length ≤ 20
  rotate_left
  · have h1 : (20 : Int) < t.st.length := by omega
    simp [-List.length_flatMap, -List.map_take, e_law04_TrialEither_r0, e_law04_TrialEither_r1, e_law04_TrialEither_r2, e_law04_TrialEither_r3, e_law04_TrialEither_r4, e_law04_TrialEither_r5, e_law04_TrialEither_r6, e_law04_TrialEither_r7, e_law04_TrialEither_r8, e_law04_TrialEither_r9, e_law04_TrialEither_r10, e_law04_TrialEither_r11, e_law04_TrialEither_r12, e_law04_TrialEither_r13, e_law04_TrialEither_r14, e_law04_TrialEither_r15, h1, C_wakes]
  have h1 : ¬ (20 : Int) < t.st.length := by omega
  by_cases hl2 : l.length ≤ 1700
  rotate_left
  · have h2 : (1700 : Int) < l.length := by omega
    simp [-List.length_flatMap, -List.map_take, e_law04_TrialEither_r0, e_law04_TrialEither_r1, e_law04_TrialEither_r2, e_law04_TrialEither_r3, e_law04_TrialEither_r4, e_law04_TrialEither_r5, e_law04_TrialEither_r6, e_law04_TrialEither_r7, e_law04_TrialEither_r8, e_law04_TrialEither_r9, e_law04_TrialEither_r10, e_law04_TrialEither_r11, e_law04_TrialEither_r12, e_law04_TrialEither_r13, e_law04_TrialEither_r14, e_law04_TrialEither_r15, h1, h2, C_wakes]
  have h2 : ¬ (1700 : Int) < l.length := by omega
  have hT := fun σ (hσ : σ ≠ []) => @C_Test σ t (by omega) hσ
  have hF := fun σ => @C_Fault σ t (by omega)
  by_cases h0 : fault t = 0
  rotate_left
  · simp [-List.length_flatMap, -List.map_take, e_law04_TrialEither_r0, e_law04_TrialEither_r1, e_law04_TrialEither_r2, e_law04_TrialEither_r3, e_law04_TrialEither_r4, e_law04_TrialEither_r5, e_law04_TrialEither_r6, e_law04_TrialEither_r7, e_law04_TrialEither_r8, e_law04_TrialEither_r9, e_law04_TrialEither_r10, e_law04_TrialEither_r11, e_law04_TrialEither_r12, e_law04_TrialEither_r13, e_law04_TrialEither_r14, e_law04_TrialEither_r15, h1, h2, hF, h0, C_wakes]
  have h := fault_tv h0
  have hP := fun σ (l : List (Int × Int)) (hl : l.length ≤ 100000) (hσ : σ ≠ []) => @C_prove σ t (by omega) l hl hσ
  have hc := fun σ (hσ : σ ≠ []) => @C_curves σ t (by omega) hσ
  have hB := fun σ => @C_blame σ t (by omega)
  have hC := fun σ (hσ : σ ≠ []) => @C_conflicts σ t (by omega) hσ
  have h5 : (l.flatMap prE).length = l.length * 2 := flat_len (f := prE) (w := 2) (fun _ => rfl) l
  have h7 : l.length * 16 ≤ room := by unfold room; omega
  cases hs : (sets t).isEmpty
  · have hne : sets t ≠ [] := fun hh => by rw [hh] at hs; cases hs
    have hb : bl t = none := blF_none hne _ _
    have ha : allC t (pairs t) = false := by rw [allC_iff, hs]
    have hP := fun σ hσ => hP σ l (by omega) hσ
    rw [shows_none hs] at hP
    simp [-List.length_flatMap, -List.map_take, e_law04_TrialEither_r0, e_law04_TrialEither_r1, e_law04_TrialEither_r2, e_law04_TrialEither_r3, e_law04_TrialEither_r4, e_law04_TrialEither_r5, e_law04_TrialEither_r6, e_law04_TrialEither_r7, e_law04_TrialEither_r8, e_law04_TrialEither_r9, e_law04_TrialEither_r10, e_law04_TrialEither_r11, e_law04_TrialEither_r12, e_law04_TrialEither_r13, e_law04_TrialEither_r14, e_law04_TrialEither_r15, h1, h2, hT, hF, h0, hP, hc, hB, hC, curvesD, blameD, confD, hs, hb, ha, h5, h7, ze, C_wakesD]
  · have he : sets t = [] := by simpa using hs
    obtain ⟨k, hb, hkl⟩ := bl_some h he
    obtain ⟨hk1, hk2⟩ := bl_spec h hb
    have ha : allC t (pairs t) = true := by rw [allC_iff, hs]
    have hpl : (prs t).length ≤ 1600 := by simpa [prs] using pairs_len h
    have hP := fun σ hσ => hP σ (prs t) (by omega) hσ
    rw [shows_own ha] at hP
    have hA := fun σ => @C_agrees σ t (by omega) a b c
    rw [ag_none he] at hA
    have hk3 : (sets (tk t k)).isEmpty = false := by
      cases hh : sets (tk t k) with
      | nil => exact absurd hh hk1
      | cons x xs => rfl
    have hk4 : (sets (tk t (k + 1))).isEmpty = true := by rw [hk2]; rfl
    have f1 : fault (tk t k) = 0 := few_fault (tk_few t k) (by simp [tk]; omega) h0
    have f2 : fault (tk t (k + 1)) = 0 := few_fault (tk_few t (k + 1)) (by simp [tk]; omega) h0
    have c1 := fun σ (hσ : σ ≠ []) => @C_curves σ (tk t k) (by simp [tk]; omega) hσ
    have c2 := fun σ (hσ : σ ≠ []) => @C_curves σ (tk t (k + 1)) (by simp [tk]; omega) hσ
    have e1 : (tk t k).st.length = k := by simp [tk]; omega
    have e2 : (tk t k).st.flatMap Step.enc = (t.st.flatMap Step.enc).take (k * 3) := tk_flat _ _
    have e3 : (tk t (k + 1)).st.length = k + 1 := by simp [tk]; omega
    have e4 : (tk t (k + 1)).st.flatMap Step.enc = (t.st.flatMap Step.enc).take ((k + 1) * 3) := tk_flat _ _
    rw [e1, e2] at c1
    rw [e3, e4] at c2
    simp only [show ∀ n, (tk t n).a = t.a from fun _ => rfl, show ∀ n, (tk t n).b = t.b from fun _ => rfl, show ∀ n, (tk t n).c = t.c from fun _ => rfl] at c1 c2
    have q1 : ¬ ((k : Int) < 0) := by omega
    have q2 : ¬ ((t.st.length : Int) ≤ k) := by omega
    have q3 : (k : Int) ≤ t.st.length := by omega
    have q7 : k ≤ t.st.length := by omega
    have q4 : (k : Int) + 1 ≤ t.st.length := by omega
    have q5 : (0 : Int) ≤ (k : Int) + 1 := by omega
    have w1 := w64 (n := (k : Int) + 1) (by omega)
    have q6 : ((k : Int) + 1).toNat = k + 1 := by omega
    simp [-List.length_flatMap, -List.map_take, e_law04_TrialEither_r0, e_law04_TrialEither_r1, e_law04_TrialEither_r2, e_law04_TrialEither_r3, e_law04_TrialEither_r4, e_law04_TrialEither_r5, e_law04_TrialEither_r6, e_law04_TrialEither_r7, e_law04_TrialEither_r8, e_law04_TrialEither_r9, e_law04_TrialEither_r10, e_law04_TrialEither_r11, e_law04_TrialEither_r12, e_law04_TrialEither_r13, e_law04_TrialEither_r14, e_law04_TrialEither_r15, h1, h2, hT, hF, h0, hP, hc, hB, hC, hA, curvesD, blameD, confD, hs, hb, ha, q1, q2, q3, q4, q5, q6, q7, w1, c1, c2, f1, f2, hk3, hk4, C_wakes]
theorem prs_of {ds : List D} (h : (Ty.arr 2 (.int .i64)).has ds) : ∃ p : Int × Int, ds = prE p ∧ True := by
  obtain ⟨xs, rfl, hl, hx⟩ := h
  match xs, hl with
  | [a, b], _ =>
    obtain ⟨_, n, rfl, _⟩ := hx a (by simp)
    obtain ⟨_, m, rfl, _⟩ := hx b (by simp)
    exact ⟨(n, m), rfl, trivial⟩
theorem cve_of {d : D} (h : (Ty.struct [.int .i64, .int .i64, .int .i64]).hasV d) : ∃ c : Cv, d = .agg c.enc := by
  obtain ⟨ds, rfl, h⟩ := h
  obtain ⟨_, _, rfl, ⟨a, rfl, _⟩, _, _, rfl, ⟨b, rfl, _⟩, _, _, rfl, ⟨c, rfl, _⟩, rfl⟩ := h
  exact ⟨⟨a, b, c⟩, rfl⟩
theorem go_TrialEither (x0 x1 x2 : D) (t0 : tyTest.hasV x0) (t1 : (Ty.slice 2 (.arr 2 (.int .i64))).hasV x1) (t2 : (Ty.struct [.int .i64, .int .i64, .int .i64]).hasV x2) :
    ∃ σ', lim T (.call false i_law04_TrialEither [x0, x1, x2] [[]]) = some (.val (.bool true) σ') := by
  obtain ⟨t, rfl⟩ := test_of t0
  obtain ⟨l, rfl, _⟩ := rows_of (f := prE) (Q := fun _ => True) (fun ds h => prs_of h) t1
  obtain ⟨c, rfl⟩ := cve_of t2
  exact ⟨_, law_Either⟩
end Go.Proofs.Ytcjjdaifpboaaaa
