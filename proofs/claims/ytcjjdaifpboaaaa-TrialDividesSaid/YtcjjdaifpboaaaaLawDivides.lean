/-
  The law TrialDivides answers true.
-/
import Derived.Test.YtcjjdaifpboaaaaB5
import Derived.Test.YtcjjdaifpboaaaaW4
import Derived.Test.YtcjjdaifpboaaaaTremTyK
set_option linter.unusedVariables false
set_option linter.unusedSimpArgs false
namespace Go.Proofs.Ytcjjdaifpboaaaa
open Go Go.Abs Go.Trial
variable {σ : Stack}

theorem relM_at {s : Surv} {W a : Nat} (h : a < W) : (relM s W).drop a = rowD s W a :: (relM s W).drop (a + 1) := dropS (by simp [relM, h])
theorem relR_at {s : Surv} {W a b : Nat} (h : b < W) : ((relR s W a).flatMap u8E).drop b = .int .u8 (relOf s a b) :: ((relR s W a).flatMap u8E).drop (b + 1) := by
  have := k_drop (f := u8E) (w := 1) (fun _ => rfl) (l := relR s W a) (i := b) (x := relOf s a b) (by simp [relR, h])
  simpa using this
theorem L_one {s : Surv} (h : Sv s) {W : Nat} (hW : s.w = W) {d5 d11 d13 : D} {f : Bool} {a b L v : Nat} {S : Stack} (ha : a < W) (hb : b < W) (h5 : d5.calm = d5) (h11 : d11.calm = d11) (h13 : d13.calm = d13) (hL : L = S.length) : ∀ (m i : Nat), i + m = W →
    WL T [2, 5, 6, 11, 13, 14, 15, 16, 17, 18] false f_law04_TrialDivides_l30 [(2, .cref s.enc), (5, d5), (6, .lst W ((gI W (Gr s)).flatMap intE)), (11, d11), (13, d13), (14, .bool f), (15, .int .i64 a), (16, .int .i64 b), (17, .sl L 0 v 0 W 1), (18, .int .i64 i)] ([.cells v ((gI W (oneT s a b i)).flatMap intE)] :: S)
      (fun x e σ' => σ' = [.cells v ((gI W (oneT s a b W)).flatMap intE)] :: S ∧ x = .exit 4 ∧ get e 2 = .cref s.enc ∧ get e 5 = d5 ∧ get e 6 = .lst W ((gI W (Gr s)).flatMap intE) ∧ get e 11 = d11 ∧ get e 13 = d13 ∧ get e 14 = .bool f ∧ get e 15 = .int .i64 a ∧ get e 16 = .int .i64 b ∧ get e 17 = .sl L 0 v 0 W 1)
  | 0, i, hi => by
    refine WL_step e_law04_TrialDivides_l30 ?_
    have h1 : ¬ (i : Int) < s.w := by omega
    obtain rfl : i = W := by omega
    simp [-List.length_flatMap, -List.map_take, e_law04_TrialDivides_r0, e_law04_TrialDivides_r1, e_law04_TrialDivides_r2, e_law04_TrialDivides_r3, e_law04_TrialDivides_r4, e_law04_TrialDivides_r5, e_law04_TrialDivides_r6, e_law04_TrialDivides_r7, e_law04_TrialDivides_r8, e_law04_TrialDivides_r9, e_law04_TrialDivides_r10, e_law04_TrialDivides_r11, e_law04_TrialDivides_r12, e_law04_TrialDivides_r13, e_law04_TrialDivides_r14, e_law04_TrialDivides_r15, e_law04_TrialDivides_r16, e_law04_TrialDivides_r17, e_law04_TrialDivides_r18, e_law04_TrialDivides_r19, e_law04_TrialDivides_r20, e_law04_TrialDivides_r21, e_law04_TrialDivides_r22, e_law04_TrialDivides_r23, e_law04_TrialDivides_r24, e_law04_TrialDivides_r25, e_law04_TrialDivides_r26, e_law04_TrialDivides_r27, e_law04_TrialDivides_r28, e_law04_TrialDivides_r29, e_law04_TrialDivides_r31, e_law04_TrialDivides_r32, e_law04_TrialDivides_r33, e_law04_TrialDivides_r35, e_law04_TrialDivides_r37, h1, h5, h11, h13]
  | m + 1, i, hi => by
    refine WL_step e_law04_TrialDivides_l30 ?_
    subst hL
    have hw := h.w
    have h1 : (i : Int) < s.w := by omega
    have hiW : i < W := by omega
    have w1 := w64 (n := (i : Int) + 1) (by omega)
    have ih := L_one h hW (d5 := d5) (d11 := d11) (d13 := d13) (f := f) (a := a) (b := b) (v := v) (S := S) ha hb h5 h11 h13 rfl m (i + 1) (by omega)
    have x1 := g1_at (g := oneT s a b i) hiW
    rw [oneT_at] at x1
    have x2 := g1_at (g := Gr s) hb
    have x3 := g1_at (g := Gr s) ha
    have a3 := @g1_len W (oneT s a b i)
    have b2 : i + 1 ≤ W := by omega
    by_cases hq : Gr s i = Gr s b
    · have q1 : ((Gr s i : Int) == (Gr s b : Int)) = true := by rw [qN, decide_eq_true hq]
      have s1 := set1 (l := gI W (oneT s a b i)) (i := i) (x := (Gr s a : Int)) (by simpa using hiW)
      have e1 : oneF s a b i = Gr s a := by unfold oneF; rw [if_pos hq]
      have e2 := @oneT_next s a b i
      rw [e1] at e2
      rw [gI_set, e2] at s1
      generalize (Gr s i : Int) = A at *
      simp [-List.length_flatMap, -List.map_take, e_law04_TrialDivides_r0, e_law04_TrialDivides_r1, e_law04_TrialDivides_r2, e_law04_TrialDivides_r3, e_law04_TrialDivides_r4, e_law04_TrialDivides_r5, e_law04_TrialDivides_r6, e_law04_TrialDivides_r7, e_law04_TrialDivides_r8, e_law04_TrialDivides_r9, e_law04_TrialDivides_r10, e_law04_TrialDivides_r11, e_law04_TrialDivides_r12, e_law04_TrialDivides_r13, e_law04_TrialDivides_r14, e_law04_TrialDivides_r15, e_law04_TrialDivides_r16, e_law04_TrialDivides_r17, e_law04_TrialDivides_r18, e_law04_TrialDivides_r19, e_law04_TrialDivides_r20, e_law04_TrialDivides_r21, e_law04_TrialDivides_r22, e_law04_TrialDivides_r23, e_law04_TrialDivides_r24, e_law04_TrialDivides_r25, e_law04_TrialDivides_r26, e_law04_TrialDivides_r27, e_law04_TrialDivides_r28, e_law04_TrialDivides_r29, e_law04_TrialDivides_r31, e_law04_TrialDivides_r32, e_law04_TrialDivides_r33, e_law04_TrialDivides_r35, e_law04_TrialDivides_r37, h1, hiW, ha, hb, w1, x1, x2, x3, q1, a3, b2, s1, h5, h11, h13]
      exact WL.to ih (by simp) rfl fun x e σ' hh => hh
    · have q1 : ((Gr s i : Int) == (Gr s b : Int)) = false := by rw [qN, decide_eq_false hq]
      have e2 := oneT_keep (a := a) hq
      rw [← e2] at ih
      simp [-List.length_flatMap, -List.map_take, e_law04_TrialDivides_r0, e_law04_TrialDivides_r1, e_law04_TrialDivides_r2, e_law04_TrialDivides_r3, e_law04_TrialDivides_r4, e_law04_TrialDivides_r5, e_law04_TrialDivides_r6, e_law04_TrialDivides_r7, e_law04_TrialDivides_r8, e_law04_TrialDivides_r9, e_law04_TrialDivides_r10, e_law04_TrialDivides_r11, e_law04_TrialDivides_r12, e_law04_TrialDivides_r13, e_law04_TrialDivides_r14, e_law04_TrialDivides_r15, e_law04_TrialDivides_r16, e_law04_TrialDivides_r17, e_law04_TrialDivides_r18, e_law04_TrialDivides_r19, e_law04_TrialDivides_r20, e_law04_TrialDivides_r21, e_law04_TrialDivides_r22, e_law04_TrialDivides_r23, e_law04_TrialDivides_r24, e_law04_TrialDivides_r25, e_law04_TrialDivides_r26, e_law04_TrialDivides_r27, e_law04_TrialDivides_r28, e_law04_TrialDivides_r29, e_law04_TrialDivides_r31, e_law04_TrialDivides_r32, e_law04_TrialDivides_r33, e_law04_TrialDivides_r35, e_law04_TrialDivides_r37, h1, hiW, ha, hb, w1, x1, x2, x3, q1, a3, h5, h11, h13]
      exact WL.to ih (by simp) rfl fun x e σ' hh => hh
theorem oneT_all {s : Surv} {W a b : Nat} : gI W (oneT s a b W) = gI W (oneF s a b) := gI_eq.2 fun z hz => by unfold oneT; rw [if_pos hz]
/-- Does what the law asks of a pair hold? -/
theorem L_d34 {s : Surv} (h : Sv s) (hf0 : sFault s = 0) (hc : clash s < 0) {W : Nat} (hW : s.w = W) {ps : List Int} (hps : ps.length = W) {f : Bool} (hf : f = true → Fit s (pF ps)) {a : Nat} (ha : a < W) (hσ : σ ≠ []) : ∀ (m b : Nat), b + m = W →
    WL T [2, 5, 6, 11, 13, 14, 15, 16] true f_law04_TrialDivides_l34 [(2, .cref s.enc), (5, .own 0 s.enc), (6, .lst W ((gI W (Gr s)).flatMap intE)), (11, .lst W (relM s W)), (13, .lst W (ps.flatMap intE)), (14, .bool f), (15, .int .i64 a), (16, .int .i64 b)] σ
      (fun x e σ' => σ' = σ ∧ x = .exit 2 ∧ get e 2 = .cref s.enc ∧ get e 5 = .own 0 s.enc ∧ get e 6 = .lst W ((gI W (Gr s)).flatMap intE) ∧ get e 11 = .lst W (relM s W) ∧ get e 13 = .lst W (ps.flatMap intE) ∧ get e 14 = .bool f ∧ get e 15 = .int .i64 a)
  | 0, b, hb => by
    refine WL_stepS e_law04_TrialDivides_l34 ?_
    have h1 : ¬ (b : Int) < s.w := by omega
    have k1 : D.cleanL (relM s W) = true := rel_clean
    have k2 : D.cleanL (ps.flatMap intE) = true := k_clean (fun x => by simp) _
    have k3 : D.cleanL ((gI W (Gr s)).flatMap intE) = true := k_clean (fun x => by simp) _
    simp [-List.length_flatMap, -List.map_take, e_law04_TrialDivides_r0, e_law04_TrialDivides_r1, e_law04_TrialDivides_r2, e_law04_TrialDivides_r3, e_law04_TrialDivides_r4, e_law04_TrialDivides_r5, e_law04_TrialDivides_r6, e_law04_TrialDivides_r7, e_law04_TrialDivides_r8, e_law04_TrialDivides_r9, e_law04_TrialDivides_r10, e_law04_TrialDivides_r11, e_law04_TrialDivides_r12, e_law04_TrialDivides_r13, e_law04_TrialDivides_r14, e_law04_TrialDivides_r15, e_law04_TrialDivides_r16, e_law04_TrialDivides_r17, e_law04_TrialDivides_r18, e_law04_TrialDivides_r19, e_law04_TrialDivides_r20, e_law04_TrialDivides_r21, e_law04_TrialDivides_r22, e_law04_TrialDivides_r23, e_law04_TrialDivides_r24, e_law04_TrialDivides_r25, e_law04_TrialDivides_r26, e_law04_TrialDivides_r27, e_law04_TrialDivides_r28, e_law04_TrialDivides_r29, e_law04_TrialDivides_r31, e_law04_TrialDivides_r32, e_law04_TrialDivides_r33, e_law04_TrialDivides_r35, e_law04_TrialDivides_r37, h1, k1, k2, k3, sl_clean]
  | m + 1, b, hb => by
    refine WL_stepS e_law04_TrialDivides_l34 ?_
    have hw := h.w
    have h1 : (b : Int) < s.w := by omega
    have hbW : b < W := by omega
    have w1 := w64 (n := (b : Int) + 1) (by omega)
    have ih := L_d34 h hf0 hc hW hps hf ha hσ m (b + 1) (by omega)
    have k1 : D.cleanL (relM s W) = true := rel_clean
    have k2 : D.cleanL (ps.flatMap intE) = true := k_clean (fun x => by simp) _
    have k3 : D.cleanL ((gI W (Gr s)).flatMap intE) = true := k_clean (fun x => by simp) _
    have a1 := relM_at (s := s) ha
    simp only [rowD] at a1
    have a2 := relR_at (s := s) (a := a) hbW
    have p1 := in_at (fit_dv hps ha)
    have p2 := in_at (fit_dv hps hbW)
    have x1 := g1_at (g := Gr s) ha
    have x2 := g1_at (g := Gr s) hbW
    have hr : relOf s a b = 0 ∨ relOf s a b = 1 ∨ relOf s a b = 2 := by
      unfold relOf
      split
      · simp
      · split <;> simp
    rcases hr with hr | hr | hr
    · cases f
      · rw [hr] at a2
        simp [-List.length_flatMap, -List.map_take, e_law04_TrialDivides_r0, e_law04_TrialDivides_r1, e_law04_TrialDivides_r2, e_law04_TrialDivides_r3, e_law04_TrialDivides_r4, e_law04_TrialDivides_r5, e_law04_TrialDivides_r6, e_law04_TrialDivides_r7, e_law04_TrialDivides_r8, e_law04_TrialDivides_r9, e_law04_TrialDivides_r10, e_law04_TrialDivides_r11, e_law04_TrialDivides_r12, e_law04_TrialDivides_r13, e_law04_TrialDivides_r14, e_law04_TrialDivides_r15, e_law04_TrialDivides_r16, e_law04_TrialDivides_r17, e_law04_TrialDivides_r18, e_law04_TrialDivides_r19, e_law04_TrialDivides_r20, e_law04_TrialDivides_r21, e_law04_TrialDivides_r22, e_law04_TrialDivides_r23, e_law04_TrialDivides_r24, e_law04_TrialDivides_r25, e_law04_TrialDivides_r26, e_law04_TrialDivides_r27, e_law04_TrialDivides_r28, e_law04_TrialDivides_r29, e_law04_TrialDivides_r31, e_law04_TrialDivides_r32, e_law04_TrialDivides_r33, e_law04_TrialDivides_r35, e_law04_TrialDivides_r37, h1, w1, ha, hbW, a1, a2, k1, k2, k3, sl_clean]
        exact WL.to ih (by simp) rfl fun x e σ' hh => hh
      · have hne := fit_no (hf rfl) hr
        have q1 : (pF ps a == pF ps b) = false := by rw [qI, decide_eq_false hne]
        rw [hr] at a2
        simp [-List.length_flatMap, -List.map_take, e_law04_TrialDivides_r0, e_law04_TrialDivides_r1, e_law04_TrialDivides_r2, e_law04_TrialDivides_r3, e_law04_TrialDivides_r4, e_law04_TrialDivides_r5, e_law04_TrialDivides_r6, e_law04_TrialDivides_r7, e_law04_TrialDivides_r8, e_law04_TrialDivides_r9, e_law04_TrialDivides_r10, e_law04_TrialDivides_r11, e_law04_TrialDivides_r12, e_law04_TrialDivides_r13, e_law04_TrialDivides_r14, e_law04_TrialDivides_r15, e_law04_TrialDivides_r16, e_law04_TrialDivides_r17, e_law04_TrialDivides_r18, e_law04_TrialDivides_r19, e_law04_TrialDivides_r20, e_law04_TrialDivides_r21, e_law04_TrialDivides_r22, e_law04_TrialDivides_r23, e_law04_TrialDivides_r24, e_law04_TrialDivides_r25, e_law04_TrialDivides_r26, e_law04_TrialDivides_r27, e_law04_TrialDivides_r28, e_law04_TrialDivides_r29, e_law04_TrialDivides_r31, e_law04_TrialDivides_r32, e_law04_TrialDivides_r33, e_law04_TrialDivides_r35, e_law04_TrialDivides_r37, h1, w1, ha, hbW, a1, a2, p1, p2, q1, hne, k1, k2, k3, sl_clean]
        exact WL.to ih (by simp) rfl fun x e σ' hh => hh
    · obtain ⟨hg, hfit⟩ := fit_one h hc hr
      have hq : ((Gr s a : Int) == (Gr s b : Int)) = false := by rw [qN, decide_eq_false hg]
      rw [hr] at a2
      have e0 : s.w.toNat = W := by omega
      have hFi := fit_gI h e0 hfit
      have hFT := fun σ => @C_Fits σ s (by have := h.n; omega) (gI W (oneF s a b))
      have hlen : ((gI W (oneF s a b)).length : Int) = s.w := by rw [gI_len]; omega
      rw [hf0, hFi, decide_eq_true hlen, gI_len] at hFT
      simp only [decide_true, Bool.and_self] at hFT
      have hgl := @g1_len W (Gr s)
      have hroom : W * 8 ≤ room := by unfold room; omega
      have hfz := k_frz (f := intE) (w := 1) (fun _ => rfl) (fun x => by simp) (l := gI W (oneF s a b)) (j := 0) (v := 1) (bs := [.cells 1 ((gI W (oneF s a b)).flatMap intE)]) (σ := σ) hσ rfl
      rw [gI_len] at hfz
      cases f
      · simp [-List.length_flatMap, -List.map_take, e_law04_TrialDivides_r0, e_law04_TrialDivides_r1, e_law04_TrialDivides_r2, e_law04_TrialDivides_r3, e_law04_TrialDivides_r4, e_law04_TrialDivides_r5, e_law04_TrialDivides_r6, e_law04_TrialDivides_r7, e_law04_TrialDivides_r8, e_law04_TrialDivides_r9, e_law04_TrialDivides_r10, e_law04_TrialDivides_r11, e_law04_TrialDivides_r12, e_law04_TrialDivides_r13, e_law04_TrialDivides_r14, e_law04_TrialDivides_r15, e_law04_TrialDivides_r16, e_law04_TrialDivides_r17, e_law04_TrialDivides_r18, e_law04_TrialDivides_r19, e_law04_TrialDivides_r20, e_law04_TrialDivides_r21, e_law04_TrialDivides_r22, e_law04_TrialDivides_r23, e_law04_TrialDivides_r24, e_law04_TrialDivides_r25, e_law04_TrialDivides_r26, e_law04_TrialDivides_r27, e_law04_TrialDivides_r28, e_law04_TrialDivides_r29, e_law04_TrialDivides_r31, e_law04_TrialDivides_r32, e_law04_TrialDivides_r33, e_law04_TrialDivides_r35, e_law04_TrialDivides_r37, h1, w1, ha, hbW, a1, a2, k1, k2, k3, sl_clean, hgl, hroom]
        refine WL.to (L_one (S := σ) (v := 1) h hW (d5 := .own 0 s.enc) (d11 := .lst W (relM s W)) (d13 := .lst W (ps.flatMap intE)) (f := false) (a := a) (b := b) ha hbW rfl rfl rfl rfl W 0 (by omega)) (by simp) (by simp [oneT_zero]) ?_
        rintro x e σ' ⟨rfl, rfl, g2, g5, g6, g11, g13, g14, g15, g16, g17⟩
        rw [oneT_all]
        generalize gI W (oneF s a b) = o at *
        simp only [Surv.enc] at g2 g5
        simp [-List.length_flatMap, -List.map_take, e_law04_TrialDivides_r31, e_law04_TrialDivides_r33, g2, g5, g6, g11, g13, g14, g15, g16, g17, hfz, x1, x2, ha, hbW, hq, hFT, w1, k1, k2, k3, sl_clean]
        exact WL.to ih (by simp) rfl fun x e σ' hh => hh
      · simp [-List.length_flatMap, -List.map_take, e_law04_TrialDivides_r0, e_law04_TrialDivides_r1, e_law04_TrialDivides_r2, e_law04_TrialDivides_r3, e_law04_TrialDivides_r4, e_law04_TrialDivides_r5, e_law04_TrialDivides_r6, e_law04_TrialDivides_r7, e_law04_TrialDivides_r8, e_law04_TrialDivides_r9, e_law04_TrialDivides_r10, e_law04_TrialDivides_r11, e_law04_TrialDivides_r12, e_law04_TrialDivides_r13, e_law04_TrialDivides_r14, e_law04_TrialDivides_r15, e_law04_TrialDivides_r16, e_law04_TrialDivides_r17, e_law04_TrialDivides_r18, e_law04_TrialDivides_r19, e_law04_TrialDivides_r20, e_law04_TrialDivides_r21, e_law04_TrialDivides_r22, e_law04_TrialDivides_r23, e_law04_TrialDivides_r24, e_law04_TrialDivides_r25, e_law04_TrialDivides_r26, e_law04_TrialDivides_r27, e_law04_TrialDivides_r28, e_law04_TrialDivides_r29, e_law04_TrialDivides_r31, e_law04_TrialDivides_r32, e_law04_TrialDivides_r33, e_law04_TrialDivides_r35, e_law04_TrialDivides_r37, h1, w1, ha, hbW, a1, a2, p1, p2, k1, k2, k3, sl_clean, hgl, hroom]
        refine WL.to (L_one (S := σ) (v := 1) h hW (d5 := .own 0 s.enc) (d11 := .lst W (relM s W)) (d13 := .lst W (ps.flatMap intE)) (f := true) (a := a) (b := b) ha hbW rfl rfl rfl rfl W 0 (by omega)) (by simp) (by simp [oneT_zero]) ?_
        rintro x e σ' ⟨rfl, rfl, g2, g5, g6, g11, g13, g14, g15, g16, g17⟩
        rw [oneT_all]
        generalize gI W (oneF s a b) = o at *
        simp only [Surv.enc] at g2 g5
        simp [-List.length_flatMap, -List.map_take, e_law04_TrialDivides_r31, e_law04_TrialDivides_r33, g2, g5, g6, g11, g13, g14, g15, g16, g17, hfz, x1, x2, ha, hbW, hq, hFT, w1, k1, k2, k3, sl_clean]
        exact WL.to ih (by simp) rfl fun x e σ' hh => hh
    · cases f
      · rw [hr] at a2
        simp [-List.length_flatMap, -List.map_take, e_law04_TrialDivides_r0, e_law04_TrialDivides_r1, e_law04_TrialDivides_r2, e_law04_TrialDivides_r3, e_law04_TrialDivides_r4, e_law04_TrialDivides_r5, e_law04_TrialDivides_r6, e_law04_TrialDivides_r7, e_law04_TrialDivides_r8, e_law04_TrialDivides_r9, e_law04_TrialDivides_r10, e_law04_TrialDivides_r11, e_law04_TrialDivides_r12, e_law04_TrialDivides_r13, e_law04_TrialDivides_r14, e_law04_TrialDivides_r15, e_law04_TrialDivides_r16, e_law04_TrialDivides_r17, e_law04_TrialDivides_r18, e_law04_TrialDivides_r19, e_law04_TrialDivides_r20, e_law04_TrialDivides_r21, e_law04_TrialDivides_r22, e_law04_TrialDivides_r23, e_law04_TrialDivides_r24, e_law04_TrialDivides_r25, e_law04_TrialDivides_r26, e_law04_TrialDivides_r27, e_law04_TrialDivides_r28, e_law04_TrialDivides_r29, e_law04_TrialDivides_r31, e_law04_TrialDivides_r32, e_law04_TrialDivides_r33, e_law04_TrialDivides_r35, e_law04_TrialDivides_r37, h1, w1, ha, hbW, a1, a2, k1, k2, k3, sl_clean]
        exact WL.to ih (by simp) rfl fun x e σ' hh => hh
      · have hne := fit_yes (hf rfl) hr
        have q1 : (pF ps a == pF ps b) = true := by rw [qI, decide_eq_true hne]
        rw [hr] at a2
        simp [-List.length_flatMap, -List.map_take, e_law04_TrialDivides_r0, e_law04_TrialDivides_r1, e_law04_TrialDivides_r2, e_law04_TrialDivides_r3, e_law04_TrialDivides_r4, e_law04_TrialDivides_r5, e_law04_TrialDivides_r6, e_law04_TrialDivides_r7, e_law04_TrialDivides_r8, e_law04_TrialDivides_r9, e_law04_TrialDivides_r10, e_law04_TrialDivides_r11, e_law04_TrialDivides_r12, e_law04_TrialDivides_r13, e_law04_TrialDivides_r14, e_law04_TrialDivides_r15, e_law04_TrialDivides_r16, e_law04_TrialDivides_r17, e_law04_TrialDivides_r18, e_law04_TrialDivides_r19, e_law04_TrialDivides_r20, e_law04_TrialDivides_r21, e_law04_TrialDivides_r22, e_law04_TrialDivides_r23, e_law04_TrialDivides_r24, e_law04_TrialDivides_r25, e_law04_TrialDivides_r26, e_law04_TrialDivides_r27, e_law04_TrialDivides_r28, e_law04_TrialDivides_r29, e_law04_TrialDivides_r31, e_law04_TrialDivides_r32, e_law04_TrialDivides_r33, e_law04_TrialDivides_r35, e_law04_TrialDivides_r37, h1, w1, ha, hbW, a1, a2, p1, p2, q1, hne, k1, k2, k3, sl_clean]
        exact WL.to ih (by simp) rfl fun x e σ' hh => hh
theorem L_d36 {s : Surv} (h : Sv s) (hf0 : sFault s = 0) (hc : clash s < 0) {W : Nat} (hW : s.w = W) {ps : List Int} (hps : ps.length = W) {f : Bool} (hf : f = true → Fit s (pF ps)) (hσ : σ ≠ []) : ∀ (m a : Nat), a + m = W →
    WL T [2, 5, 6, 11, 13, 14, 15] true f_law04_TrialDivides_l36 [(2, .cref s.enc), (5, .own 0 s.enc), (6, .lst W ((gI W (Gr s)).flatMap intE)), (11, .lst W (relM s W)), (13, .lst W (ps.flatMap intE)), (14, .bool f), (15, .int .i64 a)] σ
      (fun x e σ' => σ' = σ ∧ x = .exit 0)
  | 0, a, ha => by
    refine WL_stepS e_law04_TrialDivides_l36 ?_
    have h1 : ¬ (a : Int) < s.w := by omega
    have k1 : D.cleanL (relM s W) = true := rel_clean
    have k2 : D.cleanL (ps.flatMap intE) = true := k_clean (fun x => by simp) _
    have k3 : D.cleanL ((gI W (Gr s)).flatMap intE) = true := k_clean (fun x => by simp) _
    simp [-List.length_flatMap, -List.map_take, e_law04_TrialDivides_r0, e_law04_TrialDivides_r1, e_law04_TrialDivides_r2, e_law04_TrialDivides_r3, e_law04_TrialDivides_r4, e_law04_TrialDivides_r5, e_law04_TrialDivides_r6, e_law04_TrialDivides_r7, e_law04_TrialDivides_r8, e_law04_TrialDivides_r9, e_law04_TrialDivides_r10, e_law04_TrialDivides_r11, e_law04_TrialDivides_r12, e_law04_TrialDivides_r13, e_law04_TrialDivides_r14, e_law04_TrialDivides_r15, e_law04_TrialDivides_r16, e_law04_TrialDivides_r17, e_law04_TrialDivides_r18, e_law04_TrialDivides_r19, e_law04_TrialDivides_r20, e_law04_TrialDivides_r21, e_law04_TrialDivides_r22, e_law04_TrialDivides_r23, e_law04_TrialDivides_r24, e_law04_TrialDivides_r25, e_law04_TrialDivides_r26, e_law04_TrialDivides_r27, e_law04_TrialDivides_r28, e_law04_TrialDivides_r29, e_law04_TrialDivides_r31, e_law04_TrialDivides_r32, e_law04_TrialDivides_r33, e_law04_TrialDivides_r35, e_law04_TrialDivides_r37, h1, k1, k2, k3, sl_clean]
  | m + 1, a, ha => by
    refine WL_stepS e_law04_TrialDivides_l36 ?_
    have hw := h.w
    have h1 : (a : Int) < s.w := by omega
    have haW : a < W := by omega
    have w1 := w64 (n := (a : Int) + 1) (by omega)
    have ih := L_d36 h hf0 hc hW hps hf hσ m (a + 1) (by omega)
    have k1 : D.cleanL (relM s W) = true := rel_clean
    have k2 : D.cleanL (ps.flatMap intE) = true := k_clean (fun x => by simp) _
    have k3 : D.cleanL ((gI W (Gr s)).flatMap intE) = true := k_clean (fun x => by simp) _
    have a1 := relM_at (s := s) haW
    simp only [rowD] at a1
    have hq : (W : Int) = s.w := hW.symm
    simp [-List.length_flatMap, -List.map_take, e_law04_TrialDivides_r0, e_law04_TrialDivides_r1, e_law04_TrialDivides_r2, e_law04_TrialDivides_r3, e_law04_TrialDivides_r4, e_law04_TrialDivides_r5, e_law04_TrialDivides_r6, e_law04_TrialDivides_r7, e_law04_TrialDivides_r8, e_law04_TrialDivides_r9, e_law04_TrialDivides_r10, e_law04_TrialDivides_r11, e_law04_TrialDivides_r12, e_law04_TrialDivides_r13, e_law04_TrialDivides_r14, e_law04_TrialDivides_r15, e_law04_TrialDivides_r16, e_law04_TrialDivides_r17, e_law04_TrialDivides_r18, e_law04_TrialDivides_r19, e_law04_TrialDivides_r20, e_law04_TrialDivides_r21, e_law04_TrialDivides_r22, e_law04_TrialDivides_r23, e_law04_TrialDivides_r24, e_law04_TrialDivides_r25, e_law04_TrialDivides_r26, e_law04_TrialDivides_r27, e_law04_TrialDivides_r28, e_law04_TrialDivides_r29, e_law04_TrialDivides_r31, e_law04_TrialDivides_r32, e_law04_TrialDivides_r33, e_law04_TrialDivides_r35, e_law04_TrialDivides_r37, h1, haW, a1, hq, k1, k2, k3, sl_clean]
    refine WL.to (L_d34 (σ := [] :: σ) h hf0 hc hW hps hf haW (by simp) W 0 (by omega)) (by simp) rfl ?_
    rintro x e σ' ⟨rfl, rfl, g2, g5, g6, g11, g13, g14, g15⟩
    simp only [Surv.enc] at g2 g5
    simp [-List.length_flatMap, -List.map_take, e_law04_TrialDivides_r35, g2, g5, g6, g11, g13, g14, g15, w1, k1, k2, k3, sl_clean]
    exact WL.to ih (by simp) rfl fun x e σ' hh => hh
theorem grp_clash {s : Surv} (h : Sv s) {W : Nat} (hW : s.w.toNat = W) : allB s.l (fitOk s (gI W (Gr s))) = decide (clash s < 0) := by
  by_cases hc : clash s < 0
  · rw [decide_eq_true hc]; exact fit_gI h hW (groups_fit h hc)
  · rw [decide_eq_false hc]
    cases hA : allB s.l (fitOk s (gI W (Gr s)))
    · rfl
    · exact absurd (fit_clash (fit_iff.1 hA)) hc
theorem law_Divides {s : Surv} {b : Nat} (hb : b < 18446744073709551616) : lim T (.call false i_law04_TrialDivides [.agg [.int .i64 s.w, .int .i64 s.lv, .lst s.l.length (s.l.flatMap Seen.enc)], .int .u64 b] [[]]) = some (.val (.bool true) [[]]) := by
  refine call_of T_law04_TrialDivides e_law04_TrialDivides rfl ?_
  by_cases hl : s.l.length ≤ 70
  rotate_left
  · have h1 : (70 : Int) < s.l.length := by omega
    simp [-List.length_flatMap, -List.map_take, e_law04_TrialDivides_r0, e_law04_TrialDivides_r1, e_law04_TrialDivides_r2, e_law04_TrialDivides_r3, e_law04_TrialDivides_r4, e_law04_TrialDivides_r5, e_law04_TrialDivides_r6, e_law04_TrialDivides_r7, e_law04_TrialDivides_r8, e_law04_TrialDivides_r9, e_law04_TrialDivides_r10, e_law04_TrialDivides_r11, e_law04_TrialDivides_r12, e_law04_TrialDivides_r13, e_law04_TrialDivides_r14, e_law04_TrialDivides_r15, e_law04_TrialDivides_r16, e_law04_TrialDivides_r17, e_law04_TrialDivides_r18, e_law04_TrialDivides_r19, e_law04_TrialDivides_r20, e_law04_TrialDivides_r21, e_law04_TrialDivides_r22, e_law04_TrialDivides_r23, e_law04_TrialDivides_r24, e_law04_TrialDivides_r25, e_law04_TrialDivides_r26, e_law04_TrialDivides_r27, e_law04_TrialDivides_r28, e_law04_TrialDivides_r29, e_law04_TrialDivides_r31, e_law04_TrialDivides_r32, e_law04_TrialDivides_r33, e_law04_TrialDivides_r35, e_law04_TrialDivides_r37, h1, C_wakes]
  have h1 : ¬ (70 : Int) < s.l.length := by omega
  have hF := fun σ => @C_FaultS σ s (by omega)
  by_cases h0 : sFault s = 0
  rotate_left
  · simp [-List.length_flatMap, -List.map_take, e_law04_TrialDivides_r0, e_law04_TrialDivides_r1, e_law04_TrialDivides_r2, e_law04_TrialDivides_r3, e_law04_TrialDivides_r4, e_law04_TrialDivides_r5, e_law04_TrialDivides_r6, e_law04_TrialDivides_r7, e_law04_TrialDivides_r8, e_law04_TrialDivides_r9, e_law04_TrialDivides_r10, e_law04_TrialDivides_r11, e_law04_TrialDivides_r12, e_law04_TrialDivides_r13, e_law04_TrialDivides_r14, e_law04_TrialDivides_r15, e_law04_TrialDivides_r16, e_law04_TrialDivides_r17, e_law04_TrialDivides_r18, e_law04_TrialDivides_r19, e_law04_TrialDivides_r20, e_law04_TrialDivides_r21, e_law04_TrialDivides_r22, e_law04_TrialDivides_r23, e_law04_TrialDivides_r24, e_law04_TrialDivides_r25, e_law04_TrialDivides_r26, e_law04_TrialDivides_r27, e_law04_TrialDivides_r28, e_law04_TrialDivides_r29, e_law04_TrialDivides_r31, e_law04_TrialDivides_r32, e_law04_TrialDivides_r33, e_law04_TrialDivides_r35, e_law04_TrialDivides_r37, h1, hF, h0, C_wakes]
  have h := sFault_sv h0
  have hw := h.w
  obtain ⟨W, hW⟩ : ∃ W : Nat, s.w = W := ⟨s.w.toNat, by omega⟩
  have e0 : s.w.toNat = W := by omega
  have hS := fun σ (hσ : σ ≠ []) => @C_Survey σ s (by omega) hσ
  have hG := fun σ (hσ : σ ≠ []) => @C_Groups σ s (by omega) hσ
  have hC := fun σ (hσ : σ ≠ []) => @C_Clash σ s (by omega) hσ
  have hR := fun σ (hσ : σ ≠ []) => @C_Relations σ s (by omega) hσ
  have hD := fun σ (hσ : σ ≠ []) => C_divided (σ := σ) hW (by omega) hb hσ
  have hgd : grD s = .tup [.lst W ((gI W (Gr s)).flatMap intE), .int .i64 0] := by unfold grD grp; rw [if_pos h0, gI_len, e0]
  rw [hgd] at hG
  have hps := dv_len W b
  generalize dvF W b = ps at *
  have hFp := fun σ => @C_Fits σ s (by omega) ps
  have hFg := fun σ => @C_Fits σ s (by omega) (gI W (Gr s))
  have hgl : ((gI W (Gr s)).length : Int) = s.w := by rw [gI_len]; omega
  have hpl : ((ps.length : Nat) : Int) = s.w := by omega
  rw [grp_clash h e0, h0, decide_eq_true hgl, gI_len] at hFg
  rw [h0, decide_eq_true hpl, hps] at hFp
  simp only [decide_true, Bool.true_and] at hFp hFg
  have hgl2 := @g1_len W (Gr s)
  have hpl2 : (ps.flatMap intE).length = W := by have := flat_len (f := intE) (w := 1) (fun _ => rfl) ps; omega
  have hroom : W * 8 ≤ room := by unfold room; omega
  obtain ⟨f, hf⟩ : ∃ f, f = allB s.l (fitOk s ps) := ⟨_, rfl⟩
  rw [← hf] at hFp
  have hff : f = true → Fit s (pF ps) := fun e => fit_iff.1 (by rw [← hf]; exact e)
  have hz1 := k_frz (f := intE) (w := 1) (fun _ => rfl) (fun x => by simp) (l := ps) (j := 0) (v := 1) (bs := [.cells 1 (ps.flatMap intE)]) (σ := [[]]) (by simp) rfl
  have hz2 := k_frz (f := intE) (w := 1) (fun _ => rfl) (fun x => by simp) (l := gI W (Gr s)) (j := 1) (v := 1) (bs := [.dead, .cells 1 ((gI W (Gr s)).flatMap intE)]) (σ := [[]]) (by simp) rfl
  rw [gI_len] at hz2
  rw [hps] at hz1
  simp only [List.length_cons, List.length_nil, Nat.zero_add] at hz1 hz2
  by_cases hc : 0 ≤ clash s
  · have hc2 : ¬ clash s < 0 := by omega
    have hc3 : f = false := by
      cases f
      · rfl
      · exact absurd (fit_clash (hff rfl)) hc2
    subst hc3
    rw [decide_eq_false hc2] at hFg
    obtain ⟨k, wn, wc, hcd⟩ : ∃ k wn wc, cwD s = .tup [.int .i64 k, .lst wn wc, .int .i64 0] := by
      unfold cwD; rw [if_pos h0, if_pos hc]; exact ⟨_, _, _, rfl⟩
    have hrd : relD s = .tup [.nils, .int .i64 9] := by unfold relD; rw [if_pos h0, if_pos hc]
    rw [hcd] at hC
    rw [hrd] at hR
    have hq : (W : Int) = s.w := hW.symm
    simp [-List.length_flatMap, -List.map_take, e_law04_TrialDivides_r0, e_law04_TrialDivides_r1, e_law04_TrialDivides_r2, e_law04_TrialDivides_r3, e_law04_TrialDivides_r4, e_law04_TrialDivides_r5, e_law04_TrialDivides_r6, e_law04_TrialDivides_r7, e_law04_TrialDivides_r8, e_law04_TrialDivides_r9, e_law04_TrialDivides_r10, e_law04_TrialDivides_r11, e_law04_TrialDivides_r12, e_law04_TrialDivides_r13, e_law04_TrialDivides_r14, e_law04_TrialDivides_r15, e_law04_TrialDivides_r16, e_law04_TrialDivides_r17, e_law04_TrialDivides_r18, e_law04_TrialDivides_r19, e_law04_TrialDivides_r20, e_law04_TrialDivides_r21, e_law04_TrialDivides_r22, e_law04_TrialDivides_r23, e_law04_TrialDivides_r24, e_law04_TrialDivides_r25, e_law04_TrialDivides_r26, e_law04_TrialDivides_r27, e_law04_TrialDivides_r28, e_law04_TrialDivides_r29, e_law04_TrialDivides_r31, e_law04_TrialDivides_r32, e_law04_TrialDivides_r33, e_law04_TrialDivides_r35, e_law04_TrialDivides_r37, h1, hF, h0, hS, hG, hC, hR, hD, hFp, hFg, hgl2, hpl2, hroom, hq, hz1, hz2, C_wakes, C_wakesD]
  have hc2 : clash s < 0 := by omega
  rw [decide_eq_true hc2] at hFg
  have hcd : cwD s = .tup [.int .i64 0, .nils, .int .i64 7] := by unfold cwD; rw [if_pos h0, if_neg hc]
  have hrd : relD s = .tup [.lst W (relM s W), .int .i64 0] := by unfold relD; rw [if_pos h0, if_neg hc, e0]
  rw [hcd] at hC
  rw [hrd] at hR
  have hq : (W : Int) = s.w := hW.symm
  simp [-List.length_flatMap, -List.map_take, e_law04_TrialDivides_r0, e_law04_TrialDivides_r1, e_law04_TrialDivides_r2, e_law04_TrialDivides_r3, e_law04_TrialDivides_r4, e_law04_TrialDivides_r5, e_law04_TrialDivides_r6, e_law04_TrialDivides_r7, e_law04_TrialDivides_r8, e_law04_TrialDivides_r9, e_law04_TrialDivides_r10, e_law04_TrialDivides_r11, e_law04_TrialDivides_r12, e_law04_TrialDivides_r13, e_law04_TrialDivides_r14, e_law04_TrialDivides_r15, e_law04_TrialDivides_r16, e_law04_TrialDivides_r17, e_law04_TrialDivides_r18, e_law04_TrialDivides_r19, e_law04_TrialDivides_r20, e_law04_TrialDivides_r21, e_law04_TrialDivides_r22, e_law04_TrialDivides_r23, e_law04_TrialDivides_r24, e_law04_TrialDivides_r25, e_law04_TrialDivides_r26, e_law04_TrialDivides_r27, e_law04_TrialDivides_r28, e_law04_TrialDivides_r29, e_law04_TrialDivides_r31, e_law04_TrialDivides_r32, e_law04_TrialDivides_r33, e_law04_TrialDivides_r35, e_law04_TrialDivides_r37, h1, hF, h0, hS, hG, hC, hR, hD, hFp, hFg, hgl2, hpl2, hroom, hq, hz1, hz2, C_wakes, C_wakesD]
  refine WL.to (L_d36 (σ := [[.dead, .dead], []]) h h0 hc2 hW hps hff (by simp) W 0 (by omega)) (by simp) rfl ?_
  rintro x e σ' ⟨rfl, rfl⟩
  simp [-List.length_flatMap, -List.map_take, e_law04_TrialDivides_r37, C_wakesDD]
abbrev tySeen : Ty := .struct [.int .i64, .int .i64, .struct [.int .i64, .int .i64]]
theorem seen_of {ds : List D} (h : tySeen.has ds) : ∃ x : Seen, ds = x.enc ∧ True := by
  obtain ⟨_, _, rfl, ⟨f, rfl, _⟩, _, _, rfl, ⟨t, rfl, _⟩, _, _, rfl, ⟨_, _, rfl, ⟨a, rfl, _⟩, _, _, rfl, ⟨b, rfl, _⟩, rfl⟩, rfl⟩ := h
  exact ⟨⟨f, t, ⟨a, b⟩⟩, rfl, trivial⟩
theorem surv_of {d : D} (h : (Ty.struct [.int .i64, .int .i64, .slice 4 tySeen]).hasV d) : ∃ s : Surv, d = .agg s.enc := by
  obtain ⟨ds, rfl, h⟩ := h
  obtain ⟨_, _, rfl, ⟨w, rfl, _⟩, _, _, rfl, ⟨lv, rfl, _⟩, _, _, rfl, hs, rfl⟩ := h
  obtain ⟨d, rfl⟩ := slice_one hs
  obtain ⟨l, rfl, hl, _⟩ := rows_of (fun ds h => seen_of h) hs
  exact ⟨⟨w, lv, l⟩, rfl⟩
theorem wf_u64 {n : Int} (h : (Lit.int .u64 n).wf = true) : 0 ≤ n ∧ n ≤ 18446744073709551615 := by
  simp only [Lit.wf, Bool.and_eq_true, decide_eq_true_eq] at h
  exact h
theorem u64_of {d : D} (h : (Ty.int .u64).hasV d) : ∃ n : Nat, d = .int .u64 n ∧ n < 18446744073709551616 := by
  simp only [Ty.hasV, Ty.has, List.cons.injEq, and_true] at h
  obtain ⟨n, rfl, hw⟩ := h
  have := wf_u64 hw
  obtain ⟨m, rfl⟩ : ∃ m : Nat, n = m := ⟨n.toNat, by omega⟩
  exact ⟨m, rfl, by omega⟩
theorem go_TrialDivides (x0 x1 : D) (t0 : (Ty.struct [.int .i64, .int .i64, .slice 4 tySeen]).hasV x0) (t1 : (Ty.int .u64).hasV x1) :
    ∃ σ', lim T (.call false i_law04_TrialDivides [x0, x1] [[]]) = some (.val (.bool true) σ') := by
  obtain ⟨s, rfl⟩ := surv_of t0
  obtain ⟨b, rfl, hb⟩ := u64_of t1
  exact ⟨_, law_Divides hb⟩
end Go.Proofs.Ytcjjdaifpboaaaa
