/-
  The law TrialPulsed answers true.
-/
import Derived.Test.YtcjjdaifpboaaaaS16
import Derived.Test.YtcjjdaifpboaaaaW4
import Derived.Test.YtcjjdaifpboaaaaTremTyK
set_option linter.unusedVariables false
set_option linter.unusedSimpArgs false
namespace Go.Proofs.Ytcjjdaifpboaaaa
open Go Go.Abs Go.Trial
variable {σ : Stack}

theorem relM_at {s : Surv} {W a : Nat} (h : a < W) : (relM s W).drop a = rowD s W a :: (relM s W).drop (a + 1) := dropS (by simp [relM, h])
theorem relR_at {s : Surv} {W a b : Nat} (h : b < W) : ((relR s W a).flatMap u8E).drop b = .int .u8 (relOf s a b) :: ((relR s W a).flatMap u8E).drop (b + 1) := by
  have := k_drop (f := u8E) (w := 1) (fun _ => rfl) (l := relR s W a) (i := b) (x := relOf s a b) (by simp [relR, h])
  simpa using this
theorem L_lp2 {s s' : Surv} {W : Nat} (hW : s.w = W) (hW1 : W ≤ 10) (hR : ∀ a b, relOf s a b ≠ 1 → relOf s' a b = relOf s a b) {K a : Nat} (ha : a < W) : ∀ (m b : Nat), b + m = W →
    WL T [3, 11, 14, 16, 18, 19] false f_law04_TrialPulsed_l25 [(3, .cref s.enc), (11, .int .i64 K), (14, .lst W (relM s W)), (16, .lst W (relM s' W)), (18, .int .i64 a), (19, .int .i64 b)] σ
      (fun x e σ' => σ' = σ ∧ x = .exit 2 ∧ get e 3 = .cref s.enc ∧ get e 11 = .int .i64 K ∧ get e 14 = .lst W (relM s W) ∧ get e 16 = .lst W (relM s' W) ∧ get e 18 = .int .i64 a)
  | 0, b, hb => by
    refine WL_step e_law04_TrialPulsed_l25 ?_
    have h1 : ¬ (b : Int) < s.w := by omega
    simp [-List.length_flatMap, -List.map_take, e_law04_TrialPulsed_r0, e_law04_TrialPulsed_r1, e_law04_TrialPulsed_r2, e_law04_TrialPulsed_r3, e_law04_TrialPulsed_r4, e_law04_TrialPulsed_r5, e_law04_TrialPulsed_r6, e_law04_TrialPulsed_r7, e_law04_TrialPulsed_r8, e_law04_TrialPulsed_r9, e_law04_TrialPulsed_r10, e_law04_TrialPulsed_r11, e_law04_TrialPulsed_r12, e_law04_TrialPulsed_r13, e_law04_TrialPulsed_r14, e_law04_TrialPulsed_r15, e_law04_TrialPulsed_r16, e_law04_TrialPulsed_r17, e_law04_TrialPulsed_r18, e_law04_TrialPulsed_r19, e_law04_TrialPulsed_r20, e_law04_TrialPulsed_r21, e_law04_TrialPulsed_r22, e_law04_TrialPulsed_r23, e_law04_TrialPulsed_r24, e_law04_TrialPulsed_r26, e_law04_TrialPulsed_r28, h1]
  | m + 1, b, hb => by
    refine WL_step e_law04_TrialPulsed_l25 ?_
    have h1 : (b : Int) < s.w := by omega
    have w1 := w64 (n := (b : Int) + 1) (by omega)
    have hbW : b < W := by omega
    have ih := L_lp2 hW hW1 hR (K := K) ha m (b + 1) (by omega)
    have a1 := relM_at (s := s) ha
    have a2 := relR_at (s := s) (a := a) hbW
    have a3 := relM_at (s := s') ha
    have a4 := relR_at (s := s') (a := a) hbW
    simp only [rowD] at a1 a3
    by_cases hc : relOf s a b = 1
    · simp [-List.length_flatMap, -List.map_take, e_law04_TrialPulsed_r0, e_law04_TrialPulsed_r1, e_law04_TrialPulsed_r2, e_law04_TrialPulsed_r3, e_law04_TrialPulsed_r4, e_law04_TrialPulsed_r5, e_law04_TrialPulsed_r6, e_law04_TrialPulsed_r7, e_law04_TrialPulsed_r8, e_law04_TrialPulsed_r9, e_law04_TrialPulsed_r10, e_law04_TrialPulsed_r11, e_law04_TrialPulsed_r12, e_law04_TrialPulsed_r13, e_law04_TrialPulsed_r14, e_law04_TrialPulsed_r15, e_law04_TrialPulsed_r16, e_law04_TrialPulsed_r17, e_law04_TrialPulsed_r18, e_law04_TrialPulsed_r19, e_law04_TrialPulsed_r20, e_law04_TrialPulsed_r21, e_law04_TrialPulsed_r22, e_law04_TrialPulsed_r23, e_law04_TrialPulsed_r24, e_law04_TrialPulsed_r26, e_law04_TrialPulsed_r28, h1, w1, ha, hbW, a1, a2, a3, a4, hc]
      exact WL.to ih (by simp) rfl fun x e σ' hh => hh
    · have := hR a b hc
      rw [this] at a4
      simp [-List.length_flatMap, -List.map_take, e_law04_TrialPulsed_r0, e_law04_TrialPulsed_r1, e_law04_TrialPulsed_r2, e_law04_TrialPulsed_r3, e_law04_TrialPulsed_r4, e_law04_TrialPulsed_r5, e_law04_TrialPulsed_r6, e_law04_TrialPulsed_r7, e_law04_TrialPulsed_r8, e_law04_TrialPulsed_r9, e_law04_TrialPulsed_r10, e_law04_TrialPulsed_r11, e_law04_TrialPulsed_r12, e_law04_TrialPulsed_r13, e_law04_TrialPulsed_r14, e_law04_TrialPulsed_r15, e_law04_TrialPulsed_r16, e_law04_TrialPulsed_r17, e_law04_TrialPulsed_r18, e_law04_TrialPulsed_r19, e_law04_TrialPulsed_r20, e_law04_TrialPulsed_r21, e_law04_TrialPulsed_r22, e_law04_TrialPulsed_r23, e_law04_TrialPulsed_r24, e_law04_TrialPulsed_r26, e_law04_TrialPulsed_r28, h1, w1, ha, hbW, a1, a2, a3, a4, hc]
      exact WL.to ih (by simp) rfl fun x e σ' hh => hh
theorem L_lp1 {s s' : Surv} {W : Nat} (hW : s.w = W) (hW1 : W ≤ 10) (hR : ∀ a b, relOf s a b ≠ 1 → relOf s' a b = relOf s a b) {K : Nat} (hK : K < W) (hk : ∀ a, a < W → relOf s' K a ≠ 1) : ∀ (m a : Nat), a + m = W →
    WL T [3, 11, 14, 16, 18] false f_law04_TrialPulsed_l27 [(3, .cref s.enc), (11, .int .i64 K), (14, .lst W (relM s W)), (16, .lst W (relM s' W)), (18, .int .i64 a)] σ
      (fun x e σ' => σ' = σ ∧ x = .exit 0)
  | 0, a, hb => by
    refine WL_step e_law04_TrialPulsed_l27 ?_
    have h1 : ¬ (a : Int) < s.w := by omega
    simp [-List.length_flatMap, -List.map_take, e_law04_TrialPulsed_r0, e_law04_TrialPulsed_r1, e_law04_TrialPulsed_r2, e_law04_TrialPulsed_r3, e_law04_TrialPulsed_r4, e_law04_TrialPulsed_r5, e_law04_TrialPulsed_r6, e_law04_TrialPulsed_r7, e_law04_TrialPulsed_r8, e_law04_TrialPulsed_r9, e_law04_TrialPulsed_r10, e_law04_TrialPulsed_r11, e_law04_TrialPulsed_r12, e_law04_TrialPulsed_r13, e_law04_TrialPulsed_r14, e_law04_TrialPulsed_r15, e_law04_TrialPulsed_r16, e_law04_TrialPulsed_r17, e_law04_TrialPulsed_r18, e_law04_TrialPulsed_r19, e_law04_TrialPulsed_r20, e_law04_TrialPulsed_r21, e_law04_TrialPulsed_r22, e_law04_TrialPulsed_r23, e_law04_TrialPulsed_r24, e_law04_TrialPulsed_r26, e_law04_TrialPulsed_r28, h1]
  | m + 1, a, hb => by
    refine WL_step e_law04_TrialPulsed_l27 ?_
    have h1 : (a : Int) < s.w := by omega
    have w1 := w64 (n := (a : Int) + 1) (by omega)
    have ha : a < W := by omega
    have a1 := relM_at (s := s) ha
    have a3 := relM_at (s := s') ha
    have a5 := relM_at (s := s') hK
    have a6 := relR_at (s := s') (a := K) ha
    simp only [rowD] at a1 a3 a5
    have ih := L_lp1 hW hW1 hR hK hk m (a + 1) (by omega)
    have hq : (W : Int) = s.w := hW.symm
    have hne := hk a ha
    have hKs : (K : Int) < s.w := by omega
    simp [-List.length_flatMap, -List.map_take, e_law04_TrialPulsed_r0, e_law04_TrialPulsed_r1, e_law04_TrialPulsed_r2, e_law04_TrialPulsed_r3, e_law04_TrialPulsed_r4, e_law04_TrialPulsed_r5, e_law04_TrialPulsed_r6, e_law04_TrialPulsed_r7, e_law04_TrialPulsed_r8, e_law04_TrialPulsed_r9, e_law04_TrialPulsed_r10, e_law04_TrialPulsed_r11, e_law04_TrialPulsed_r12, e_law04_TrialPulsed_r13, e_law04_TrialPulsed_r14, e_law04_TrialPulsed_r15, e_law04_TrialPulsed_r16, e_law04_TrialPulsed_r17, e_law04_TrialPulsed_r18, e_law04_TrialPulsed_r19, e_law04_TrialPulsed_r20, e_law04_TrialPulsed_r21, e_law04_TrialPulsed_r22, e_law04_TrialPulsed_r23, e_law04_TrialPulsed_r24, e_law04_TrialPulsed_r26, e_law04_TrialPulsed_r28, h1, ha, hK, hKs, a1, a3, a5, a6, hq, hne]
    have hL := L_lp2 (σ := σ) (s := s) (s' := s') (W := W) hW hW1 hR (K := K) ha W 0 (by omega)
    refine WL.to hL (by simp) rfl ?_
    rintro x e σ' ⟨hs, rfl, g3, g11, g14, g16, g18⟩
    have hs := hs.symm
    subst hs
    simp only [Surv.enc] at g3
    simp [-List.length_flatMap, -List.map_take, e_law04_TrialPulsed_r26, g3, g11, g14, g16, g18, w1]
    exact WL.to ih (by simp) rfl fun x e σ' hh => hh
theorem pulR_clash {s : Surv} (h : Sv s) (hlv : -2000000000 < s.lv) {ps : List Int} {W K : Nat} (hW : s.w = W) (hp : ps.length = W) (hK : K < W) (hf : ¬ Fit s (pF ps)) : pulR s K ps = (9, none) := by
  obtain ⟨l, h1, _⟩ := pulF_some hlv (ps := ps) (K := K) ps.length 0
  have c1 : inn (K : Int) 0 (s.w - 1) = true := inn_iff.2 ⟨by omega, by omega⟩
  have c2 : decide ((ps.length : Int) = s.w) = true := decide_eq_true (by omega)
  have c3 : allB s.l (fitOk s ps) = false := by
    cases hA : allB s.l (fitOk s ps)
    · rfl
    · exact absurd (fit_iff.1 hA) hf
  unfold pulR
  rw [c1, c2]
  simp only [Bool.and_self, if_true, Int.toNat_natCast, h1, c3, Bool.false_eq_true, if_false]
theorem zq1 {l : List Int} {W : Nat} (hl : l.length = W) : frz 0 16 (.sl 1 0 1 0 W 1) [[.cells 1 (l.flatMap intE)], []] = (.lst W (l.flatMap intE), [[.dead], []]) := by
  subst hl; exact k_frz (f := intE) (w := 1) (fun _ => rfl) (fun x => by simp) (σ := [[]]) (by simp) rfl
theorem zq2 {l : List Int} {W : Nat} (hl : l.length = W) : frz 0 16 (.sl 1 1 1 0 W 1) [[.dead, .cells 1 (l.flatMap intE)], []] = (.lst W (l.flatMap intE), [[.dead, .dead], []]) := by
  subst hl; exact k_frz (f := intE) (w := 1) (fun _ => rfl) (fun x => by simp) (bs := [.dead, .cells 1 (l.flatMap intE)]) (σ := [[]]) (by simp) rfl
theorem zq3 {l : List Int} {W : Nat} (hl : l.length = W) : frz 0 16 (.sl 1 2 1 0 W 1) [[.dead, .dead, .cells 1 (l.flatMap intE)], []] = (.lst W (l.flatMap intE), [[.dead, .dead, .dead], []]) := by
  subst hl; exact k_frz (f := intE) (w := 1) (fun _ => rfl) (fun x => by simp) (bs := [.dead, .dead, .cells 1 (l.flatMap intE)]) (σ := [[]]) (by simp) rfl
theorem law_Pulsed {s : Surv} {b : Nat} (hb : b < 18446744073709551616) {z : Int} (hz : 0 ≤ z ∧ z ≤ 255) : lim T (.call false i_law04_TrialPulsed [.agg [.int .i64 s.w, .int .i64 s.lv, .lst s.l.length (s.l.flatMap Seen.enc)], .int .u64 b, .int .u8 z] [[]]) = some (.val (.bool true) [[]]) := by
  refine call_of T_law04_TrialPulsed e_law04_TrialPulsed rfl ?_
  by_cases hl : s.l.length ≤ 50
  rotate_left
  · have h1 : (50 : Int) < s.l.length := by omega
    simp [-List.length_flatMap, -List.map_take, e_law04_TrialPulsed_r0, e_law04_TrialPulsed_r1, e_law04_TrialPulsed_r2, e_law04_TrialPulsed_r3, e_law04_TrialPulsed_r4, e_law04_TrialPulsed_r5, e_law04_TrialPulsed_r6, e_law04_TrialPulsed_r7, e_law04_TrialPulsed_r8, e_law04_TrialPulsed_r9, e_law04_TrialPulsed_r10, e_law04_TrialPulsed_r11, e_law04_TrialPulsed_r12, e_law04_TrialPulsed_r13, e_law04_TrialPulsed_r14, e_law04_TrialPulsed_r15, e_law04_TrialPulsed_r16, e_law04_TrialPulsed_r17, e_law04_TrialPulsed_r18, e_law04_TrialPulsed_r19, e_law04_TrialPulsed_r20, e_law04_TrialPulsed_r21, e_law04_TrialPulsed_r22, e_law04_TrialPulsed_r23, e_law04_TrialPulsed_r24, e_law04_TrialPulsed_r26, e_law04_TrialPulsed_r28, h1, C_wakes]
  have h1 : ¬ (50 : Int) < s.l.length := by omega
  have hF := fun σ => @C_FaultS σ s (by omega)
  by_cases h0 : sFault s = 0
  rotate_left
  · simp [-List.length_flatMap, -List.map_take, e_law04_TrialPulsed_r0, e_law04_TrialPulsed_r1, e_law04_TrialPulsed_r2, e_law04_TrialPulsed_r3, e_law04_TrialPulsed_r4, e_law04_TrialPulsed_r5, e_law04_TrialPulsed_r6, e_law04_TrialPulsed_r7, e_law04_TrialPulsed_r8, e_law04_TrialPulsed_r9, e_law04_TrialPulsed_r10, e_law04_TrialPulsed_r11, e_law04_TrialPulsed_r12, e_law04_TrialPulsed_r13, e_law04_TrialPulsed_r14, e_law04_TrialPulsed_r15, e_law04_TrialPulsed_r16, e_law04_TrialPulsed_r17, e_law04_TrialPulsed_r18, e_law04_TrialPulsed_r19, e_law04_TrialPulsed_r20, e_law04_TrialPulsed_r21, e_law04_TrialPulsed_r22, e_law04_TrialPulsed_r23, e_law04_TrialPulsed_r24, e_law04_TrialPulsed_r26, e_law04_TrialPulsed_r28, h1, hF, h0, C_wakes]
  by_cases hv : s.lv = -2000000000
  · rw [hv] at hF ⊢
    simp [-List.length_flatMap, -List.map_take, e_law04_TrialPulsed_r0, e_law04_TrialPulsed_r1, e_law04_TrialPulsed_r2, e_law04_TrialPulsed_r3, e_law04_TrialPulsed_r4, e_law04_TrialPulsed_r5, e_law04_TrialPulsed_r6, e_law04_TrialPulsed_r7, e_law04_TrialPulsed_r8, e_law04_TrialPulsed_r9, e_law04_TrialPulsed_r10, e_law04_TrialPulsed_r11, e_law04_TrialPulsed_r12, e_law04_TrialPulsed_r13, e_law04_TrialPulsed_r14, e_law04_TrialPulsed_r15, e_law04_TrialPulsed_r16, e_law04_TrialPulsed_r17, e_law04_TrialPulsed_r18, e_law04_TrialPulsed_r19, e_law04_TrialPulsed_r20, e_law04_TrialPulsed_r21, e_law04_TrialPulsed_r22, e_law04_TrialPulsed_r23, e_law04_TrialPulsed_r24, e_law04_TrialPulsed_r26, e_law04_TrialPulsed_r28, h1, hF, h0, C_wakes]
  have h := sFault_sv h0
  have hw := h.w
  have hlv := h.lv
  obtain ⟨W, hW⟩ : ∃ W : Nat, s.w = W := ⟨s.w.toNat, by omega⟩
  have e0 : s.w.toNat = W := by omega
  have hS := fun σ (hσ : σ ≠ []) => @C_Survey σ s (by omega) hσ
  have hG := fun σ (hσ : σ ≠ []) => @C_GroupsP σ s (sqD s) (sqD_blur s) (by omega) h0 W hW hσ
  have hD := fun σ (hσ : σ ≠ []) => @C_divided σ s.w W hW (by omega) b hb hσ
  have hT := fun σ => @C_Fits σ s (sqD s) (sqD_blur s) (by omega) (dvF W b)
  rw [dv_len] at hT
  have hR := fun σ (hσ : σ ≠ []) => @C_Relations σ s (sqD s) (sqD_blur s) (by omega) hσ
  have h5 : ∀ l : List Int, (l.flatMap intE).length = l.length := fun l => by simpa using flat_len (f := intE) (w := 1) (fun _ => rfl) l
  have h7 : W * 8 ≤ room := by unfold room; omega
  have w1 := w64 (n := z) (by omega)
  generalize hK : z % s.w = k
  have hk0 : 0 ≤ k := by rw [← hK]; exact Int.emod_nonneg _ (by omega)
  have hk1 : k < s.w := by rw [← hK]; exact Int.emod_lt_of_pos _ (by omega)
  obtain ⟨K, rfl⟩ : ∃ K : Nat, k = K := ⟨k.toNat, by omega⟩
  have hmod : z.tmod s.w = K := by rw [Int.tmod_eq_emod_of_nonneg hz.1, hK]
  have hw0 : ¬ s.w = 0 := by omega
  have hq : (W : Int) = s.w := hW.symm
  have hq1 := (sqD_flat s).1
  have hq2 := (sqD_flat s).2
  have hgl : (gI W (Gr s)).length = W := by simp
  have hgf : clash s < 0 → Fit s (pF (gI W (Gr s))) := fun hc x hx => by
    have hg := groups_fit h hc x hx
    have hv := h.l x hx
    have e : ∀ v, v < W → pF (gI W (Gr s)) v = (Gr s v : Int) := fun v hv => by simp [pF, gI_at hv]
    rw [e _ (by omega), e _ (by omega)]
    exact hg
  obtain ⟨ps, hps, hcase⟩ : ∃ ps : List Int, ps.length = W ∧ ((allB s.l (fitOk s (dvF W b)) = true ∧ ps = dvF W b) ∨ (allB s.l (fitOk s (dvF W b)) = false ∧ ps = gI W (Gr s))) := by
    cases hd : allB s.l (fitOk s (dvF W b))
    · exact ⟨_, hgl, .inr ⟨rfl, rfl⟩⟩
    · exact ⟨_, dv_len W b, .inl ⟨rfl, rfl⟩⟩
  have hfit : clash s < 0 → Fit s (pF ps) := fun hc => by
    rcases hcase with ⟨hd, rfl⟩ | ⟨hd, rfl⟩
    · exact fit_iff.1 hd
    · exact hgf hc
  have hP := fun σ (hσ : σ ≠ []) => @C_Pulse σ s (by omega) hσ K ps (by omega)
  rw [if_pos h0, hps] at hP
  have z1 := zq1 (l := dvF W b) (dv_len W b)
  have z2 := zq2 (l := ps) hps
  have h5d := h5 (dvF W b)
  rw [dv_len] at h5d
  have h5p := h5 ps
  rw [hps] at h5p
  by_cases hc : 0 ≤ clash s
  · have hpr := pulR_clash h (by omega) hW hps (by omega : K < W) (fun hf => by have := fit_clash hf; omega)
    rw [hpr] at hP
    simp only [pulO, z3v] at hP
    simp only [relD, h0, hc, if_true] at hR
    rcases hcase with ⟨hd, hpe⟩ | ⟨hd, hpe⟩
    · rw [hpe] at hP z2 h5p
      simp [-List.length_flatMap, -List.map_take, e_law04_TrialPulsed_r0, e_law04_TrialPulsed_r1, e_law04_TrialPulsed_r2, e_law04_TrialPulsed_r3, e_law04_TrialPulsed_r4, e_law04_TrialPulsed_r5, e_law04_TrialPulsed_r6, e_law04_TrialPulsed_r7, e_law04_TrialPulsed_r8, e_law04_TrialPulsed_r9, e_law04_TrialPulsed_r10, e_law04_TrialPulsed_r11, e_law04_TrialPulsed_r12, e_law04_TrialPulsed_r13, e_law04_TrialPulsed_r14, e_law04_TrialPulsed_r15, e_law04_TrialPulsed_r16, e_law04_TrialPulsed_r17, e_law04_TrialPulsed_r18, e_law04_TrialPulsed_r19, e_law04_TrialPulsed_r20, e_law04_TrialPulsed_r21, e_law04_TrialPulsed_r22, e_law04_TrialPulsed_r23, e_law04_TrialPulsed_r24, e_law04_TrialPulsed_r26, e_law04_TrialPulsed_r28, h1, hF, h0, hv, hS, hG, hD, hT, hd, hq, h5d, h5p, h7, z1, z2, hq1, hq2, w1, hmod, hw0, hP, hR, C_wakesDD]
    · rw [hpe] at hP z2 h5p
      simp [-List.length_flatMap, -List.map_take, e_law04_TrialPulsed_r0, e_law04_TrialPulsed_r1, e_law04_TrialPulsed_r2, e_law04_TrialPulsed_r3, e_law04_TrialPulsed_r4, e_law04_TrialPulsed_r5, e_law04_TrialPulsed_r6, e_law04_TrialPulsed_r7, e_law04_TrialPulsed_r8, e_law04_TrialPulsed_r9, e_law04_TrialPulsed_r10, e_law04_TrialPulsed_r11, e_law04_TrialPulsed_r12, e_law04_TrialPulsed_r13, e_law04_TrialPulsed_r14, e_law04_TrialPulsed_r15, e_law04_TrialPulsed_r16, e_law04_TrialPulsed_r17, e_law04_TrialPulsed_r18, e_law04_TrialPulsed_r19, e_law04_TrialPulsed_r20, e_law04_TrialPulsed_r21, e_law04_TrialPulsed_r22, e_law04_TrialPulsed_r23, e_law04_TrialPulsed_r24, e_law04_TrialPulsed_r26, e_law04_TrialPulsed_r28, h1, hF, h0, hv, hS, hG, hD, hT, hd, hq, h5d, h5p, h7, z1, z2, hq1, hq2, w1, hmod, hw0, hP, hR, C_wakesDD]
  · have hf := hfit (by omega)
    obtain ⟨s', hpr, hsw, hslv, hpu⟩ := pulsed_of h (by omega) hl hW hps (by omega : K < W) hf
    rw [hpr] at hP
    simp only [pulO, Surv.enc] at hP
    simp only [relD, h0, hc, if_true, if_false, e0] at hR
    have h0' := sv_fault hpu.sv
    have hc' : ¬ 0 ≤ clash s' := by have := fit_clash hpu.fit; omega
    have hsn := hpu.sv.n
    have hR' := fun σ (hσ : σ ≠ []) => @C_Relations σ s' (.lst s'.l.length (s'.l.flatMap Seen.enc)) rfl (by omega) hσ
    have e0' : s'.w.toNat = W := by omega
    simp only [relD, h0', hc', if_true, if_false, e0'] at hR'
    have hT' := fun σ => @C_Fits σ s' (.lst s'.l.length (s'.l.flatMap Seen.enc)) rfl (by omega) ps
    have hall := fit_iff.2 hpu.fit
    have hq' : (ps.length : Int) = s'.w := by omega
    rw [h0', hall, decide_eq_true hq', hps] at hT'
    simp only [decide_true, Bool.and_self] at hT'
    have z3 := zq3 (l := ps) hps
    have hrr : ∀ a b, relOf s a b ≠ 1 → relOf s' a b = relOf s a b := fun a b hab => more_rel hpu.more hpu.sv hpu.fit hab
    have hkk : ∀ a, a < W → relOf s' K a ≠ 1 := fun a ha => hpu.known a (by omega)
    have hKW : K < W := by omega
    have hL := L_lp1 (σ := [[.dead, .dead, .dead], []]) (s := s) (s' := s') (W := W) hW (by omega) hrr hKW hkk W 0 (by omega)
    rcases hcase with ⟨hd, hpe⟩ | ⟨hd, hpe⟩
    · rw [hpe] at hP z2 z3 h5p hT'
      simp [-List.length_flatMap, -List.map_take, e_law04_TrialPulsed_r0, e_law04_TrialPulsed_r1, e_law04_TrialPulsed_r2, e_law04_TrialPulsed_r3, e_law04_TrialPulsed_r4, e_law04_TrialPulsed_r5, e_law04_TrialPulsed_r6, e_law04_TrialPulsed_r7, e_law04_TrialPulsed_r8, e_law04_TrialPulsed_r9, e_law04_TrialPulsed_r10, e_law04_TrialPulsed_r11, e_law04_TrialPulsed_r12, e_law04_TrialPulsed_r13, e_law04_TrialPulsed_r14, e_law04_TrialPulsed_r15, e_law04_TrialPulsed_r16, e_law04_TrialPulsed_r17, e_law04_TrialPulsed_r18, e_law04_TrialPulsed_r19, e_law04_TrialPulsed_r20, e_law04_TrialPulsed_r21, e_law04_TrialPulsed_r22, e_law04_TrialPulsed_r23, e_law04_TrialPulsed_r24, e_law04_TrialPulsed_r26, e_law04_TrialPulsed_r28, h1, hF, h0, hv, hS, hG, hD, hT, hd, hq, h5d, h5p, h7, z1, z2, z3, hq1, hq2, w1, hmod, hw0, hP, hR, hR', hT']
      refine WL.to hL (by simp) rfl ?_
      rintro x e σ' ⟨rfl, rfl⟩
      simp [-List.length_flatMap, -List.map_take, e_law04_TrialPulsed_r28, C_wakesD3]
    · rw [hpe] at hP z2 z3 h5p hT'
      simp [-List.length_flatMap, -List.map_take, e_law04_TrialPulsed_r0, e_law04_TrialPulsed_r1, e_law04_TrialPulsed_r2, e_law04_TrialPulsed_r3, e_law04_TrialPulsed_r4, e_law04_TrialPulsed_r5, e_law04_TrialPulsed_r6, e_law04_TrialPulsed_r7, e_law04_TrialPulsed_r8, e_law04_TrialPulsed_r9, e_law04_TrialPulsed_r10, e_law04_TrialPulsed_r11, e_law04_TrialPulsed_r12, e_law04_TrialPulsed_r13, e_law04_TrialPulsed_r14, e_law04_TrialPulsed_r15, e_law04_TrialPulsed_r16, e_law04_TrialPulsed_r17, e_law04_TrialPulsed_r18, e_law04_TrialPulsed_r19, e_law04_TrialPulsed_r20, e_law04_TrialPulsed_r21, e_law04_TrialPulsed_r22, e_law04_TrialPulsed_r23, e_law04_TrialPulsed_r24, e_law04_TrialPulsed_r26, e_law04_TrialPulsed_r28, h1, hF, h0, hv, hS, hG, hD, hT, hd, hq, h5d, h5p, h7, z1, z2, z3, hq1, hq2, w1, hmod, hw0, hP, hR, hR', hT']
      refine WL.to hL (by simp) rfl ?_
      rintro x e σ' ⟨rfl, rfl⟩
      simp [-List.length_flatMap, -List.map_take, e_law04_TrialPulsed_r28, C_wakesD3]
abbrev tySeenQ : Ty := .struct [.int .i64, .int .i64, .struct [.int .i64, .int .i64]]
theorem seenQ_of {ds : List D} (h : tySeenQ.has ds) : ∃ x : Seen, ds = x.enc ∧ True := by
  obtain ⟨_, _, rfl, ⟨f, rfl, _⟩, _, _, rfl, ⟨t, rfl, _⟩, _, _, rfl, ⟨_, _, rfl, ⟨a, rfl, _⟩, _, _, rfl, ⟨b, rfl, _⟩, rfl⟩, rfl⟩ := h
  exact ⟨⟨f, t, ⟨a, b⟩⟩, rfl, trivial⟩
theorem survQ_of {d : D} (h : (Ty.struct [.int .i64, .int .i64, .slice 4 tySeenQ]).hasV d) : ∃ s : Surv, d = .agg s.enc := by
  obtain ⟨ds, rfl, h⟩ := h
  obtain ⟨_, _, rfl, ⟨w, rfl, _⟩, _, _, rfl, ⟨lv, rfl, _⟩, _, _, rfl, hs, rfl⟩ := h
  obtain ⟨d, rfl⟩ := slice_one hs
  obtain ⟨l, rfl, hl, _⟩ := rows_of (fun ds h => seenQ_of h) hs
  exact ⟨⟨w, lv, l⟩, rfl⟩
theorem wf_u64 {n : Int} (h : (Lit.int .u64 n).wf = true) : 0 ≤ n ∧ n ≤ 18446744073709551615 := by
  simp only [Lit.wf, Bool.and_eq_true, decide_eq_true_eq] at h
  exact h
theorem u64_of {d : D} (h : (Ty.int .u64).hasV d) : ∃ n : Nat, d = .int .u64 n ∧ n < 18446744073709551616 := by
  simp only [Ty.hasV, Ty.has, List.cons.injEq, and_true] at h
  obtain ⟨n, rfl, hw⟩ := h
  have := wf_u64 hw
  obtain ⟨m, rfl⟩ : ∃ m : Nat, n = m := ⟨n.toNat, by omega⟩
  exact ⟨m, rfl, by omega⟩
theorem go_TrialPulsed (x0 x1 x2 : D) (t0 : (Ty.struct [.int .i64, .int .i64, .slice 4 tySeenQ]).hasV x0) (t1 : (Ty.int .u64).hasV x1) (t2 : (Ty.int .u8).hasV x2) :
    ∃ σ', lim T (.call false i_law04_TrialPulsed [x0, x1, x2] [[]]) = some (.val (.bool true) σ') := by
  obtain ⟨s, rfl⟩ := survQ_of t0
  obtain ⟨b, rfl, hb⟩ := u64_of t1
  obtain ⟨z, rfl, hz⟩ := u8_of t2
  exact ⟨_, law_Pulsed hb hz⟩
end Go.Proofs.Ytcjjdaifpboaaaa
