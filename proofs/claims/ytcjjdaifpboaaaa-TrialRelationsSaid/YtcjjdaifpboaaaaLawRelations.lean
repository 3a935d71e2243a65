/-
  The law TrialRelations answers true.
-/
import Derived.Test.YtcjjdaifpboaaaaS11
import Derived.Test.YtcjjdaifpboaaaaW
import Derived.Test.YtcjjdaifpboaaaaTremTyK
set_option linter.unusedVariables false
set_option linter.unusedSimpArgs false
namespace Go.Proofs.Ytcjjdaifpboaaaa
open Go Go.Abs Go.Trial
variable {σ : Stack}

theorem relM_at {s : Surv} {W a : Nat} (h : a < W) : (relM s W).drop a = rowD s W a :: (relM s W).drop (a + 1) := dropS (by simp [relM, h])
theorem relR_at {s : Surv} {W a b : Nat} (h : b < W) : ((relR s W a).flatMap u8E).drop b = .int .u8 (relOf s a b) :: ((relR s W a).flatMap u8E).drop (b + 1) := by
  have := k_drop (f := u8E) (w := 1) (fun _ => rfl) (l := relR s W a) (i := b) (x := relOf s a b) (by simp [relR, h])
  simpa using this
theorem L_lr2 {s : Surv} (h : Sv s) {W : Nat} (hW : s.w = W) {a : Nat} (ha : a < W) : ∀ (m b : Nat), b + m = W →
    WL T [1, 4, 8, 9] false f_law04_TrialRelations_l21 [(1, .cref s.enc), (4, .lst W (relM s W)), (8, .int .i64 a), (9, .int .i64 b)] σ
      (fun x e σ' => σ' = σ ∧ x = .exit 2 ∧ get e 1 = .cref s.enc ∧ get e 4 = .lst W (relM s W) ∧ get e 8 = .int .i64 a)
  | 0, b, hb => by
    refine WL_step e_law04_TrialRelations_l21 ?_
    have h1 : ¬ (b : Int) < s.w := by omega
    simp [-List.length_flatMap, -List.map_take, e_law04_TrialRelations_r0, e_law04_TrialRelations_r1, e_law04_TrialRelations_r2, e_law04_TrialRelations_r3, e_law04_TrialRelations_r4, e_law04_TrialRelations_r5, e_law04_TrialRelations_r6, e_law04_TrialRelations_r7, e_law04_TrialRelations_r8, e_law04_TrialRelations_r9, e_law04_TrialRelations_r10, e_law04_TrialRelations_r11, e_law04_TrialRelations_r12, e_law04_TrialRelations_r13, e_law04_TrialRelations_r14, e_law04_TrialRelations_r15, e_law04_TrialRelations_r16, e_law04_TrialRelations_r17, e_law04_TrialRelations_r18, e_law04_TrialRelations_r19, e_law04_TrialRelations_r20, e_law04_TrialRelations_r22, e_law04_TrialRelations_r24, h1]
  | m + 1, b, hb => by
    refine WL_step e_law04_TrialRelations_l21 ?_
    have h1 : (b : Int) < s.w := by omega
    have hw := h.w
    have w1 := w64 (n := (b : Int) + 1) (by omega)
    have hbW : b < W := by omega
    have ih := L_lr2 h hW ha m (b + 1) (by omega)
    have hR := fun σ => @C_RelationR σ s h W hW a b ha hbW
    have a1 := relM_at (s := s) ha
    have a2 := relR_at (s := s) (a := a) hbW
    simp only [rowD] at a1
    simp [-List.length_flatMap, -List.map_take, e_law04_TrialRelations_r0, e_law04_TrialRelations_r1, e_law04_TrialRelations_r2, e_law04_TrialRelations_r3, e_law04_TrialRelations_r4, e_law04_TrialRelations_r5, e_law04_TrialRelations_r6, e_law04_TrialRelations_r7, e_law04_TrialRelations_r8, e_law04_TrialRelations_r9, e_law04_TrialRelations_r10, e_law04_TrialRelations_r11, e_law04_TrialRelations_r12, e_law04_TrialRelations_r13, e_law04_TrialRelations_r14, e_law04_TrialRelations_r15, e_law04_TrialRelations_r16, e_law04_TrialRelations_r17, e_law04_TrialRelations_r18, e_law04_TrialRelations_r19, e_law04_TrialRelations_r20, e_law04_TrialRelations_r22, e_law04_TrialRelations_r24, h1, w1, hR, ha, hbW, a1, a2]
    exact WL.to ih (by simp) rfl fun x e σ' hh => hh
theorem L_lr1 {s : Surv} (h : Sv s) {W : Nat} (hW : s.w = W) : ∀ (m a : Nat), a + m = W →
    WL T [1, 4, 8] false f_law04_TrialRelations_l23 [(1, .cref s.enc), (4, .lst W (relM s W)), (8, .int .i64 a)] σ
      (fun x e σ' => σ' = σ ∧ x = .exit 0)
  | 0, a, hb => by
    refine WL_step e_law04_TrialRelations_l23 ?_
    have h1 : ¬ (a : Int) < s.w := by omega
    simp [-List.length_flatMap, -List.map_take, e_law04_TrialRelations_r0, e_law04_TrialRelations_r1, e_law04_TrialRelations_r2, e_law04_TrialRelations_r3, e_law04_TrialRelations_r4, e_law04_TrialRelations_r5, e_law04_TrialRelations_r6, e_law04_TrialRelations_r7, e_law04_TrialRelations_r8, e_law04_TrialRelations_r9, e_law04_TrialRelations_r10, e_law04_TrialRelations_r11, e_law04_TrialRelations_r12, e_law04_TrialRelations_r13, e_law04_TrialRelations_r14, e_law04_TrialRelations_r15, e_law04_TrialRelations_r16, e_law04_TrialRelations_r17, e_law04_TrialRelations_r18, e_law04_TrialRelations_r19, e_law04_TrialRelations_r20, e_law04_TrialRelations_r22, e_law04_TrialRelations_r24, h1]
  | m + 1, a, hb => by
    refine WL_step e_law04_TrialRelations_l23 ?_
    have h1 : (a : Int) < s.w := by omega
    have hw := h.w
    have w1 := w64 (n := (a : Int) + 1) (by omega)
    have ha : a < W := by omega
    have a1 := relM_at (s := s) ha
    simp only [rowD] at a1
    have ih := L_lr1 h hW m (a + 1) (by omega)
    have hq : (W : Int) = s.w := hW.symm
    simp [-List.length_flatMap, -List.map_take, e_law04_TrialRelations_r0, e_law04_TrialRelations_r1, e_law04_TrialRelations_r2, e_law04_TrialRelations_r3, e_law04_TrialRelations_r4, e_law04_TrialRelations_r5, e_law04_TrialRelations_r6, e_law04_TrialRelations_r7, e_law04_TrialRelations_r8, e_law04_TrialRelations_r9, e_law04_TrialRelations_r10, e_law04_TrialRelations_r11, e_law04_TrialRelations_r12, e_law04_TrialRelations_r13, e_law04_TrialRelations_r14, e_law04_TrialRelations_r15, e_law04_TrialRelations_r16, e_law04_TrialRelations_r17, e_law04_TrialRelations_r18, e_law04_TrialRelations_r19, e_law04_TrialRelations_r20, e_law04_TrialRelations_r22, e_law04_TrialRelations_r24, h1, ha, a1, hq]
    refine WL.to (L_lr2 (σ := σ) h hW ha W 0 (by omega)) (by simp) rfl ?_
    rintro x e σ' ⟨hs, rfl, g1, g4, g8⟩
    have hs := hs.symm
    subst hs
    simp only [Surv.enc] at g1
    simp [-List.length_flatMap, -List.map_take, e_law04_TrialRelations_r22, g1, g4, g8, w1]
    exact WL.to ih (by simp) rfl fun x e σ' hh => hh
theorem law_Relations {s : Surv} : lim T (.call false i_law04_TrialRelations [.agg [.int .i64 s.w, .int .i64 s.lv, .lst s.l.length (s.l.flatMap Seen.enc)]] [[]]) = some (.val (.bool true) [[]]) := by
  refine call_of T_law04_TrialRelations e_law04_TrialRelations rfl ?_
  by_cases hl : s.l.length ≤ 70
  rotate_left
  · have h1 : (70 : Int) < s.l.length := by omega
    simp [-List.length_flatMap, -List.map_take, e_law04_TrialRelations_r0, e_law04_TrialRelations_r1, e_law04_TrialRelations_r2, e_law04_TrialRelations_r3, e_law04_TrialRelations_r4, e_law04_TrialRelations_r5, e_law04_TrialRelations_r6, e_law04_TrialRelations_r7, e_law04_TrialRelations_r8, e_law04_TrialRelations_r9, e_law04_TrialRelations_r10, e_law04_TrialRelations_r11, e_law04_TrialRelations_r12, e_law04_TrialRelations_r13, e_law04_TrialRelations_r14, e_law04_TrialRelations_r15, e_law04_TrialRelations_r16, e_law04_TrialRelations_r17, e_law04_TrialRelations_r18, e_law04_TrialRelations_r19, e_law04_TrialRelations_r20, e_law04_TrialRelations_r22, e_law04_TrialRelations_r24, h1, C_wakes]
  have h1 : ¬ (70 : Int) < s.l.length := by omega
  have hF := fun σ => @C_FaultS σ s (by omega)
  have hS := fun σ (hσ : σ ≠ []) => @C_Survey σ s (by omega) hσ
  have hR := fun σ (hσ : σ ≠ []) => @C_Relations σ s (by omega) hσ
  have hP := fun σ (hσ : σ ≠ []) => @C_Plan σ s (by omega) hσ
  by_cases h0 : sFault s = 0
  rotate_left
  · simp [-List.length_flatMap, -List.map_take, e_law04_TrialRelations_r0, e_law04_TrialRelations_r1, e_law04_TrialRelations_r2, e_law04_TrialRelations_r3, e_law04_TrialRelations_r4, e_law04_TrialRelations_r5, e_law04_TrialRelations_r6, e_law04_TrialRelations_r7, e_law04_TrialRelations_r8, e_law04_TrialRelations_r9, e_law04_TrialRelations_r10, e_law04_TrialRelations_r11, e_law04_TrialRelations_r12, e_law04_TrialRelations_r13, e_law04_TrialRelations_r14, e_law04_TrialRelations_r15, e_law04_TrialRelations_r16, e_law04_TrialRelations_r17, e_law04_TrialRelations_r18, e_law04_TrialRelations_r19, e_law04_TrialRelations_r20, e_law04_TrialRelations_r22, e_law04_TrialRelations_r24, h1, hF, hS, hR, hP, relD, planD, h0, C_wakes]
  have h := sFault_sv h0
  have hC := fun σ => @C_ClashR σ s h
  by_cases hc : 0 ≤ clash s
  · simp [-List.length_flatMap, -List.map_take, e_law04_TrialRelations_r0, e_law04_TrialRelations_r1, e_law04_TrialRelations_r2, e_law04_TrialRelations_r3, e_law04_TrialRelations_r4, e_law04_TrialRelations_r5, e_law04_TrialRelations_r6, e_law04_TrialRelations_r7, e_law04_TrialRelations_r8, e_law04_TrialRelations_r9, e_law04_TrialRelations_r10, e_law04_TrialRelations_r11, e_law04_TrialRelations_r12, e_law04_TrialRelations_r13, e_law04_TrialRelations_r14, e_law04_TrialRelations_r15, e_law04_TrialRelations_r16, e_law04_TrialRelations_r17, e_law04_TrialRelations_r18, e_law04_TrialRelations_r19, e_law04_TrialRelations_r20, e_law04_TrialRelations_r22, e_law04_TrialRelations_r24, h1, hF, hS, hR, hP, hC, relD, planD, h0, hc, C_wakes]
  have hw := h.w
  obtain ⟨W, hW⟩ : ∃ W : Nat, s.w = W := ⟨s.w.toNat, by omega⟩
  have e0 : s.w.toNat = W := by omega
  have hPR := fun σ => @C_PlanR σ s h
  have hpl : (planL s).length ≤ 10 := by
    have := plan_least (W := W) (dec := decS s) (by have := @decS_full s; rw [e0] at this; exact this) (W + 1) 0 (by omega) (fun j hj => by omega)
    have e1 : planF W (decS s) (W + 1) 0 = planL s := by unfold planL; rw [e0]
    rw [e1] at this
    have := asc_len this.asc (by omega)
    omega
  have hI := fun σ => @C_ints σ (planL s) (by omega)
  have hq : (W : Int) = s.w := hW.symm
  simp only [nE] at hPR hI
  simp [-List.length_flatMap, -List.map_take, e_law04_TrialRelations_r0, e_law04_TrialRelations_r1, e_law04_TrialRelations_r2, e_law04_TrialRelations_r3, e_law04_TrialRelations_r4, e_law04_TrialRelations_r5, e_law04_TrialRelations_r6, e_law04_TrialRelations_r7, e_law04_TrialRelations_r8, e_law04_TrialRelations_r9, e_law04_TrialRelations_r10, e_law04_TrialRelations_r11, e_law04_TrialRelations_r12, e_law04_TrialRelations_r13, e_law04_TrialRelations_r14, e_law04_TrialRelations_r15, e_law04_TrialRelations_r16, e_law04_TrialRelations_r17, e_law04_TrialRelations_r18, e_law04_TrialRelations_r19, e_law04_TrialRelations_r20, e_law04_TrialRelations_r22, e_law04_TrialRelations_r24, h1, hF, hS, hR, hP, hC, relD, planD, h0, hc, e0, hq, hPR, hI]
  refine WL.to (L_lr1 (σ := [[], []]) h hW W 0 (by omega)) (by simp) rfl ?_
  rintro x e σ' ⟨rfl, rfl⟩
  simp [-List.length_flatMap, -List.map_take, e_law04_TrialRelations_r24, C_wakes]
abbrev tySeen : Ty := .struct [.int .i64, .int .i64, .struct [.int .i64, .int .i64]]
theorem seen_of {ds : List D} (h : tySeen.has ds) : ∃ x : Seen, ds = x.enc ∧ True := by
  obtain ⟨_, _, rfl, ⟨f, rfl, _⟩, _, _, rfl, ⟨t, rfl, _⟩, _, _, rfl, ⟨_, _, rfl, ⟨a, rfl, _⟩, _, _, rfl, ⟨b, rfl, _⟩, rfl⟩, rfl⟩ := h
  exact ⟨⟨f, t, ⟨a, b⟩⟩, rfl, trivial⟩
theorem surv_of {d : D} (h : (Ty.struct [.int .i64, .int .i64, .slice 4 tySeen]).hasV d) : ∃ s : Surv, d = .agg s.enc := by
  obtain ⟨ds, rfl, h⟩ := h
  obtain ⟨_, _, rfl, ⟨w, rfl, _⟩, _, _, rfl, ⟨lv, rfl, _⟩, _, _, rfl, hs, rfl⟩ := h
  obtain ⟨d, rfl⟩ := slice_one hs
  obtain ⟨l, rfl, hl, _⟩ := rows_of (fun ds h => seen_of h) hs
  exact ⟨⟨w, lv, l⟩, rfl⟩
theorem go_TrialRelations (x0 : D) (t0 : (Ty.struct [.int .i64, .int .i64, .slice 4 tySeen]).hasV x0) :
    ∃ σ', lim T (.call false i_law04_TrialRelations [x0] [[]]) = some (.val (.bool true) σ') := by
  obtain ⟨s, rfl⟩ := surv_of t0
  exact ⟨_, law_Relations⟩
end Go.Proofs.Ytcjjdaifpboaaaa
