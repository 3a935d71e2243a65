/-
  The law TrialPlans answers true.
-/
import Derived.Test.YtcjjdaifpboaaaaS18
import Derived.Test.YtcjjdaifpboaaaaW4
import Derived.Test.YtcjjdaifpboaaaaTremTyK
set_option linter.unusedVariables false
set_option linter.unusedSimpArgs false
namespace Go.Proofs.Ytcjjdaifpboaaaa
open Go Go.Abs Go.Trial
variable {σ : Stack}

theorem u64x {i : Nat} (h : i < 100) : IntKind.u64.wrap (i : Int) = i := by
  unfold IntKind.wrap
  simp [IntKind.signed, IntKind.bits]
  omega
theorem u16x {i : Nat} (h : i < 65536) : IntKind.u16.wrap (i : Int) = i := by
  unfold IntKind.wrap
  simp [IntKind.signed, IntKind.bits]
  omega
/-- A bit of a set, as the code asks for it. -/
structure BitU (n i Q : Nat) (b : Bool) : Prop where
  sh : (n : Int).fdiv (2 ^ min i IntKind.u16.bits) = (Q : Int)
  an : IntKind.u16.wrap ((Q % 2 ^ IntKind.u16.bits &&& 1 % 2 ^ IntKind.u16.bits : Nat) : Int) = if b then 1 else 0
theorem bitU_of {n i : Nat} (hn : n < 65536) (hi : i < 10) : ∃ Q, BitU n i Q (n.testBit i) := by
  refine ⟨n / 2 ^ i, ?_, ?_⟩
  · have e : min i IntKind.u16.bits = i := by simp [IntKind.bits]; omega
    rw [e, Int.fdiv_eq_ediv_of_nonneg _ (by exact Int.pow_nonneg (by decide))]
    simp
  · have hm : n / 2 ^ i < 65536 := Nat.lt_of_le_of_lt (Nat.div_le_self _ _) hn
    generalize hM : n / 2 ^ i = m at *
    have e : (m % 2 ^ IntKind.u16.bits &&& 1 % 2 ^ IntKind.u16.bits : Nat) = m % 2 := by
      have e3 : (2 : Nat) ^ IntKind.u16.bits = 65536 := by decide
      rw [e3, Nat.mod_eq_of_lt (by omega : m < 65536)]
      exact Nat.and_one_is_mod m
    rw [e, u16x (by omega), Nat.testBit_eq_decide_div_mod_eq, hM]
    by_cases h : m % 2 = 1
    · rw [h]; simp
    · have : m % 2 = 0 := by omega
      rw [this]; simp
theorem asc_filt {p : Nat → Bool} {W : Nat} : ∀ (n lo : Nat), lo + n = W → Asc W lo ((List.range' lo n).filter p)
  | 0, lo, _ => by simp [Asc]
  | n + 1, lo, h => by
    have ih := asc_filt (p := p) (W := W) n (lo + 1) (by omega)
    rw [List.range'_succ, List.filter_cons]
    split
    · exact ⟨Nat.le_refl _, by omega, ih⟩
    · generalize (List.range' (lo + 1) n).filter p = c at ih
      cases c with
      | nil => trivial
      | cons x c => exact ⟨by have := ih.1; omega, ih.2⟩
def othE (s : Surv) (n : Nat) (W : Nat) (pl : List Nat) (v k j : Nat) (i : Nat) : Env := [(2, .int .u16 n), (3, .cref s.enc), (7, .own 0 [.int .i64 s.w, .int .i64 s.lv, sqD s]), (8, .lst pl.length (nE pl)), (10, .lst W ((gI W (Gr s)).flatMap intE)), (15, .sl 1 j k 0 k 1), (16, .int .i64 i)]
theorem L_oth {s : Surv} {W : Nat} (hW : s.w = W) (hW10 : W ≤ 10) {n : Nat} (hn : n < 65536) {pl : List Nat} {pre : List Blk} (hpre : pre = [.dead] ∨ pre = [.dead, .dead]) : ∀ (m i : Nat) (acc : List Nat), i + m = W → acc.length ≤ i →
    WL T [2, 3, 7, 8, 10, 15, 16] false f_law04_TrialPlans_l22 (othE s n W pl 0 acc.length pre.length i) [pre ++ [.cells acc.length (nE acc)], []]
      (fun x e σ' => ∃ r, r = acc ++ (List.range' i m).filter (fun i => n.testBit i) ∧ σ' = [pre ++ [.cells r.length (nE r)], []] ∧ x = .exit 0 ∧ get e 15 = .sl 1 pre.length r.length 0 r.length 1 ∧
        get e 7 = .own 0 [.int .i64 s.w, .int .i64 s.lv, sqD s] ∧ get e 8 = .lst pl.length (nE pl) ∧ get e 10 = .lst W ((gI W (Gr s)).flatMap intE))
  | 0, i, acc, hi, ha => by
    unfold othE
    refine WL_step e_law04_TrialPlans_l22 ?_
    have h1 : ¬ (i : Int) < s.w := by omega
    rcases hpre with rfl | rfl
    · simp [-List.length_flatMap, -List.map_take, e_law04_TrialPlans_r0, e_law04_TrialPlans_r1, e_law04_TrialPlans_r2, e_law04_TrialPlans_r3, e_law04_TrialPlans_r4, e_law04_TrialPlans_r5, e_law04_TrialPlans_r6, e_law04_TrialPlans_r7, e_law04_TrialPlans_r8, e_law04_TrialPlans_r9, e_law04_TrialPlans_r10, e_law04_TrialPlans_r11, e_law04_TrialPlans_r12, e_law04_TrialPlans_r13, e_law04_TrialPlans_r14, e_law04_TrialPlans_r15, e_law04_TrialPlans_r16, e_law04_TrialPlans_r17, e_law04_TrialPlans_r18, e_law04_TrialPlans_r19, e_law04_TrialPlans_r20, e_law04_TrialPlans_r21, e_law04_TrialPlans_r23, e_law04_TrialPlans_r24, h1]
    · simp [-List.length_flatMap, -List.map_take, e_law04_TrialPlans_r0, e_law04_TrialPlans_r1, e_law04_TrialPlans_r2, e_law04_TrialPlans_r3, e_law04_TrialPlans_r4, e_law04_TrialPlans_r5, e_law04_TrialPlans_r6, e_law04_TrialPlans_r7, e_law04_TrialPlans_r8, e_law04_TrialPlans_r9, e_law04_TrialPlans_r10, e_law04_TrialPlans_r11, e_law04_TrialPlans_r12, e_law04_TrialPlans_r13, e_law04_TrialPlans_r14, e_law04_TrialPlans_r15, e_law04_TrialPlans_r16, e_law04_TrialPlans_r17, e_law04_TrialPlans_r18, e_law04_TrialPlans_r19, e_law04_TrialPlans_r20, e_law04_TrialPlans_r21, e_law04_TrialPlans_r23, e_law04_TrialPlans_r24, h1]
  | m + 1, i, acc, hi, ha => by
    have h1 : (i : Int) < s.w := by omega
    have w1 := w64 (n := (i : Int) + 1) (by omega)
    have q1 := u64x (i := i) (by omega)
    obtain ⟨Q, q2, q3⟩ := bitU_of (n := n) (i := i) hn (by omega)
    have h0 : ¬ (i : Int) < 0 := by omega
    rw [List.range'_succ, List.filter_cons]
    cases hb : n.testBit i
    · rw [hb] at q3
      simp only [Bool.false_eq_true, if_false, if_true] at q3
      have ih := L_oth (pl := pl) hW hW10 hn hpre m (i + 1) acc (by omega) (by omega)
      unfold othE at ih ⊢
      refine WL_step e_law04_TrialPlans_l22 ?_
      rcases hpre with rfl | rfl
      · simp [-List.length_flatMap, -List.map_take, e_law04_TrialPlans_r0, e_law04_TrialPlans_r1, e_law04_TrialPlans_r2, e_law04_TrialPlans_r3, e_law04_TrialPlans_r4, e_law04_TrialPlans_r5, e_law04_TrialPlans_r6, e_law04_TrialPlans_r7, e_law04_TrialPlans_r8, e_law04_TrialPlans_r9, e_law04_TrialPlans_r10, e_law04_TrialPlans_r11, e_law04_TrialPlans_r12, e_law04_TrialPlans_r13, e_law04_TrialPlans_r14, e_law04_TrialPlans_r15, e_law04_TrialPlans_r16, e_law04_TrialPlans_r17, e_law04_TrialPlans_r18, e_law04_TrialPlans_r19, e_law04_TrialPlans_r20, e_law04_TrialPlans_r21, e_law04_TrialPlans_r23, e_law04_TrialPlans_r24, h1, w1, q1, q2, q3, h0]
        refine WL.to ih (by simp) (by simp) ?_
        exact fun x e σ' hh => by simpa using hh
      · simp [-List.length_flatMap, -List.map_take, e_law04_TrialPlans_r0, e_law04_TrialPlans_r1, e_law04_TrialPlans_r2, e_law04_TrialPlans_r3, e_law04_TrialPlans_r4, e_law04_TrialPlans_r5, e_law04_TrialPlans_r6, e_law04_TrialPlans_r7, e_law04_TrialPlans_r8, e_law04_TrialPlans_r9, e_law04_TrialPlans_r10, e_law04_TrialPlans_r11, e_law04_TrialPlans_r12, e_law04_TrialPlans_r13, e_law04_TrialPlans_r14, e_law04_TrialPlans_r15, e_law04_TrialPlans_r16, e_law04_TrialPlans_r17, e_law04_TrialPlans_r18, e_law04_TrialPlans_r19, e_law04_TrialPlans_r20, e_law04_TrialPlans_r21, e_law04_TrialPlans_r23, e_law04_TrialPlans_r24, h1, w1, q1, q2, q3, h0]
        refine WL.to ih (by simp) (by simp) ?_
        exact fun x e σ' hh => by simpa using hh
    · rw [hb] at q3
      simp only [Bool.false_eq_true, if_false, if_true] at q3
      have ih := L_oth (pl := pl) hW hW10 hn hpre m (i + 1) (acc ++ [i]) (by omega) (by simp; omega)
      have a1 := @nE_len acc
      have a2 : (nE acc).take acc.length = nE acc := List.take_of_length_le (by rw [a1]; exact Nat.le_refl _)
      have h7 : (acc.length + 1) * 8 ≤ room := by unfold room; omega
      simp only [List.length_append, List.length_cons, List.length_nil, Nat.zero_add, nE_app] at ih
      unfold othE at ih ⊢
      refine WL_step e_law04_TrialPlans_l22 ?_
      rcases hpre with rfl | rfl
      · simp [-List.length_flatMap, -List.map_take, e_law04_TrialPlans_r0, e_law04_TrialPlans_r1, e_law04_TrialPlans_r2, e_law04_TrialPlans_r3, e_law04_TrialPlans_r4, e_law04_TrialPlans_r5, e_law04_TrialPlans_r6, e_law04_TrialPlans_r7, e_law04_TrialPlans_r8, e_law04_TrialPlans_r9, e_law04_TrialPlans_r10, e_law04_TrialPlans_r11, e_law04_TrialPlans_r12, e_law04_TrialPlans_r13, e_law04_TrialPlans_r14, e_law04_TrialPlans_r15, e_law04_TrialPlans_r16, e_law04_TrialPlans_r17, e_law04_TrialPlans_r18, e_law04_TrialPlans_r19, e_law04_TrialPlans_r20, e_law04_TrialPlans_r21, e_law04_TrialPlans_r23, e_law04_TrialPlans_r24, h1, w1, q1, q2, q3, h0, a1, a2, h7]
        refine WL.to ih (by simp) (by simp) ?_
        intro x e σ' hh
        simpa using hh
      · simp [-List.length_flatMap, -List.map_take, e_law04_TrialPlans_r0, e_law04_TrialPlans_r1, e_law04_TrialPlans_r2, e_law04_TrialPlans_r3, e_law04_TrialPlans_r4, e_law04_TrialPlans_r5, e_law04_TrialPlans_r6, e_law04_TrialPlans_r7, e_law04_TrialPlans_r8, e_law04_TrialPlans_r9, e_law04_TrialPlans_r10, e_law04_TrialPlans_r11, e_law04_TrialPlans_r12, e_law04_TrialPlans_r13, e_law04_TrialPlans_r14, e_law04_TrialPlans_r15, e_law04_TrialPlans_r16, e_law04_TrialPlans_r17, e_law04_TrialPlans_r18, e_law04_TrialPlans_r19, e_law04_TrialPlans_r20, e_law04_TrialPlans_r21, e_law04_TrialPlans_r23, e_law04_TrialPlans_r24, h1, w1, q1, q2, q3, h0, a1, a2, h7]
        refine WL.to ih (by simp) (by simp) ?_
        intro x e σ' hh
        simpa using hh
theorem zr1 {l : List Int} {W : Nat} (hl : l.length = W) : frz 0 16 (.sl 1 0 1 0 W 1) [[.cells 1 (l.flatMap intE)], []] = (.lst W (l.flatMap intE), [[.dead], []]) := by
  subst hl; exact k_frz (f := intE) (w := 1) (fun _ => rfl) (fun x => by simp) (σ := [[]]) (by simp) rfl
theorem zr2 {l : List Int} {W : Nat} (hl : l.length = W) : frz 0 16 (.sl 1 1 1 0 W 1) [[.dead, .cells 1 (l.flatMap intE)], []] = (.lst W (l.flatMap intE), [[.dead, .dead], []]) := by
  subst hl; exact k_frz (f := intE) (w := 1) (fun _ => rfl) (fun x => by simp) (bs := [.dead, .cells 1 (l.flatMap intE)]) (σ := [[]]) (by simp) rfl
theorem zo1 (r : List Nat) : frz 0 16 (.sl 1 1 r.length 0 r.length 1) [[.dead, .cells r.length (nE r)], []] = (.lst r.length (nE r), [[.dead, .dead], []]) :=
  frz_top (σ := [[]]) (by simp) (bs := [.dead, .cells r.length (nE r)]) rfl nE_clean (by simp [nE_len])
theorem zo2 (r : List Nat) : frz 0 16 (.sl 1 2 r.length 0 r.length 1) [[.dead, .dead, .cells r.length (nE r)], []] = (.lst r.length (nE r), [[.dead, .dead, .dead], []]) :=
  frz_top (σ := [[]]) (by simp) (bs := [.dead, .dead, .cells r.length (nE r)]) rfl nE_clean (by simp [nE_len])
theorem law_Plans {s : Surv} {b : Nat} (hb : b < 18446744073709551616) {n : Nat} (hn : n < 65536) : lim T (.call false i_law04_TrialPlans [.agg [.int .i64 s.w, .int .i64 s.lv, .lst s.l.length (s.l.flatMap Seen.enc)], .int .u64 b, .int .u16 n] [[]]) = some (.val (.bool true) [[]]) := by
  refine call_of T_law04_TrialPlans e_law04_TrialPlans rfl ?_
  by_cases hl : s.l.length ≤ 10
  rotate_left
  · have h1 : (10 : Int) < s.l.length := by omega
    simp [-List.length_flatMap, -List.map_take, e_law04_TrialPlans_r0, e_law04_TrialPlans_r1, e_law04_TrialPlans_r2, e_law04_TrialPlans_r3, e_law04_TrialPlans_r4, e_law04_TrialPlans_r5, e_law04_TrialPlans_r6, e_law04_TrialPlans_r7, e_law04_TrialPlans_r8, e_law04_TrialPlans_r9, e_law04_TrialPlans_r10, e_law04_TrialPlans_r11, e_law04_TrialPlans_r12, e_law04_TrialPlans_r13, e_law04_TrialPlans_r14, e_law04_TrialPlans_r15, e_law04_TrialPlans_r16, e_law04_TrialPlans_r17, e_law04_TrialPlans_r18, e_law04_TrialPlans_r19, e_law04_TrialPlans_r20, e_law04_TrialPlans_r21, e_law04_TrialPlans_r23, e_law04_TrialPlans_r24, h1, C_wakes]
  have h1 : ¬ (10 : Int) < s.l.length := by omega
  have hF := fun σ => @C_FaultS σ s (by omega)
  by_cases h0 : sFault s = 0
  rotate_left
  · simp [-List.length_flatMap, -List.map_take, e_law04_TrialPlans_r0, e_law04_TrialPlans_r1, e_law04_TrialPlans_r2, e_law04_TrialPlans_r3, e_law04_TrialPlans_r4, e_law04_TrialPlans_r5, e_law04_TrialPlans_r6, e_law04_TrialPlans_r7, e_law04_TrialPlans_r8, e_law04_TrialPlans_r9, e_law04_TrialPlans_r10, e_law04_TrialPlans_r11, e_law04_TrialPlans_r12, e_law04_TrialPlans_r13, e_law04_TrialPlans_r14, e_law04_TrialPlans_r15, e_law04_TrialPlans_r16, e_law04_TrialPlans_r17, e_law04_TrialPlans_r18, e_law04_TrialPlans_r19, e_law04_TrialPlans_r20, e_law04_TrialPlans_r21, e_law04_TrialPlans_r23, e_law04_TrialPlans_r24, h1, hF, h0, C_wakes]
  by_cases hv : s.lv = -2000000000
  · rw [hv] at hF ⊢
    simp [-List.length_flatMap, -List.map_take, e_law04_TrialPlans_r0, e_law04_TrialPlans_r1, e_law04_TrialPlans_r2, e_law04_TrialPlans_r3, e_law04_TrialPlans_r4, e_law04_TrialPlans_r5, e_law04_TrialPlans_r6, e_law04_TrialPlans_r7, e_law04_TrialPlans_r8, e_law04_TrialPlans_r9, e_law04_TrialPlans_r10, e_law04_TrialPlans_r11, e_law04_TrialPlans_r12, e_law04_TrialPlans_r13, e_law04_TrialPlans_r14, e_law04_TrialPlans_r15, e_law04_TrialPlans_r16, e_law04_TrialPlans_r17, e_law04_TrialPlans_r18, e_law04_TrialPlans_r19, e_law04_TrialPlans_r20, e_law04_TrialPlans_r21, e_law04_TrialPlans_r23, e_law04_TrialPlans_r24, h1, hF, h0, C_wakes]
  have h := sFault_sv h0
  have hw := h.w
  have hlv := h.lv
  obtain ⟨W, hW⟩ : ∃ W : Nat, s.w = W := ⟨s.w.toNat, by omega⟩
  have e0 : s.w.toNat = W := by omega
  have hS := fun σ (hσ : σ ≠ []) => @C_Survey σ s (by omega) hσ
  have hG := fun σ (hσ : σ ≠ []) => @C_GroupsP σ s (sqD s) (sqD_blur s) (by omega) h0 W hW hσ
  have hPl := fun σ (hσ : σ ≠ []) => @C_Plan σ s (sqD s) (sqD_blur s) (by omega) hσ
  have hq1 := (sqD_flat s).1
  have hq2 := (sqD_flat s).2
  by_cases hc : 0 ≤ clash s
  · simp only [planD, h0, hc, if_true] at hPl
    simp [-List.length_flatMap, -List.map_take, e_law04_TrialPlans_r0, e_law04_TrialPlans_r1, e_law04_TrialPlans_r2, e_law04_TrialPlans_r3, e_law04_TrialPlans_r4, e_law04_TrialPlans_r5, e_law04_TrialPlans_r6, e_law04_TrialPlans_r7, e_law04_TrialPlans_r8, e_law04_TrialPlans_r9, e_law04_TrialPlans_r10, e_law04_TrialPlans_r11, e_law04_TrialPlans_r12, e_law04_TrialPlans_r13, e_law04_TrialPlans_r14, e_law04_TrialPlans_r15, e_law04_TrialPlans_r16, e_law04_TrialPlans_r17, e_law04_TrialPlans_r18, e_law04_TrialPlans_r19, e_law04_TrialPlans_r20, e_law04_TrialPlans_r21, e_law04_TrialPlans_r23, e_law04_TrialPlans_r24, h1, hF, h0, hv, hS, hG, hPl, hq1, hq2, C_wakes]
  simp only [planD, h0, hc, if_true, if_false] at hPl
  have hD := fun σ (hσ : σ ≠ []) => @C_divided σ s.w W hW (by omega) b hb hσ
  have hT := fun σ => @C_Fits σ s (sqD s) (sqD_blur s) (by omega) (dvF W b)
  rw [dv_len] at hT
  have h5 : ∀ l : List Int, (l.flatMap intE).length = l.length := fun l => by simpa using flat_len (f := intE) (w := 1) (fun _ => rfl) l
  have h7 : W * 8 ≤ room := by unfold room; omega
  have hq : (W : Int) = s.w := hW.symm
  have hgl : (gI W (Gr s)).length = W := by simp
  have hgf : Fit s (pF (gI W (Gr s))) := fun x hx => by
    have hg := groups_fit h (by omega) x hx
    have hv := h.l x hx
    have e : ∀ v, v < W → pF (gI W (Gr s)) v = (Gr s v : Int) := fun v hv => by simp [pF, gI_at hv]
    rw [e _ (by omega), e _ (by omega)]
    exact hg
  have hL := planL_least hW
  obtain ⟨pl, hpl⟩ : ∃ pl, planL s = pl := ⟨_, rfl⟩
  rw [hpl] at hL hPl
  have hasc := hL.asc
  have hpw : ∀ w ∈ pl, w < W := fun w hw => (asc_mem hasc hw).2
  have hpn : pl.length ≤ W := by have := asc_len hasc (by omega); omega
  have h8 : ¬ s.w < (pl.length : Int) := by omega
  have hK1 := fun σ (hσ : σ ≠ []) (ps : List Int) (hps : ps.length = W) (hf : Fit s (pF ps)) => @C_known σ s h (by omega) ps W hW hps pl hpw hpn hf hσ
  have hgood : ∀ ps : List Int, ps.length = W → Fit s (pF ps) → knD W (kn ps pl s) = .tup [.bool false, .bool false] ∨ knD W (kn ps pl s) = .tup [.bool true, .bool true] := fun ps hps hf => by
    cases hk : kn ps pl s with
    | none => left; rfl
    | some s' =>
      right
      have := made_all hW hpw (kn_made hps pl s hpw h (by omega) hW hf hk) hL.ok
      simp [knD, this]
  obtain ⟨r, hr⟩ : ∃ r, (List.range' 0 W).filter (fun i => n.testBit i) = r := ⟨_, rfl⟩
  have hrasc : Asc W 0 r := by rw [← hr]; exact asc_filt W 0 (by omega)
  have hrw : ∀ w ∈ r, w < W := fun w hw => (asc_mem hrasc hw).2
  have hrn : r.length ≤ W := by have := asc_len hrasc (by omega); omega
  have hK2 := fun σ (hσ : σ ≠ []) => @C_known σ s h (by omega) (gI W (Gr s)) W hW hgl r hrw hrn hgf hσ
  have hbad : r.length < pl.length → knD W (kn (gI W (Gr s)) r s) = .tup [.bool false, .bool false] ∨ knD W (kn (gI W (Gr s)) r s) = .tup [.bool false, .bool true] := fun hlt => by
    cases hk : kn (gI W (Gr s)) r s with
    | none => left; rfl
    | some s' =>
      right
      have := made_open h hW hrw (kn_made hgl r s hrw h (by omega) hW hgf hk) (less_open hW hrasc (by rw [hpl]; exact hlt))
      simp [knD, this]
  have z1 := zr1 (l := dvF W b) (dv_len W b)
  have h5d := h5 (dvF W b)
  rw [dv_len] at h5d
  have h5p := h5 (gI W (Gr s))
  rw [hgl] at h5p
  have hPl' : ∀ σ : Stack, σ ≠ [] → lim T (.call false i_trial_Plan [.agg [.int .i64 s.w, .int .i64 s.lv, sqD s]] σ) = some (.val (.tup [.lst pl.length (nE pl), .int .i64 0]) σ) := hPl
  have hlt3 : ¬ r.length < pl.length → ¬ ((r.length : Int) < pl.length) := fun h => by omega
  have hlt4 : ¬ r.length < pl.length → ((pl.length : Int) ≤ r.length) := fun h => by omega
  have hlt5 : r.length < pl.length → ¬ ((pl.length : Int) ≤ r.length) := fun h => by omega
  obtain ⟨d1, d2, hd12⟩ : ∃ d1 d2, knD W (kn (gI W (Gr s)) r s) = .tup [.bool d1, .bool d2] := by
    cases kn (gI W (Gr s)) r s with
    | none => exact ⟨_, _, rfl⟩
    | some s' => exact ⟨_, _, rfl⟩
  rw [hd12] at hbad
  simp only [hd12] at hK2
  have hbad' : r.length < pl.length → d2 = false ∨ d1 = false := fun hlt => by
    rcases hbad hlt with h | h
    · simp only [D.tup.injEq, List.cons.injEq, D.bool.injEq] at h; exact .inl h.2.1
    · simp only [D.tup.injEq, List.cons.injEq, D.bool.injEq] at h; exact .inr h.1
  cases hd : allB s.l (fitOk s (dvF W b))
  · have z2 := zr2 (l := gI W (Gr s)) hgl
    have hk1 := fun σ hσ => hK1 σ hσ (gI W (Gr s)) hgl hgf
    have hLo := L_oth hW (by omega) hn (s := s) (pl := pl) (pre := [.dead, .dead]) (.inr rfl) W 0 [] (by omega) (by simp)
    have fin : ∀ (x : Abs.Exit) (e : Env) (σ' : Stack), (∃ r, r = [] ++ (List.range' 0 W).filter (fun i => n.testBit i) ∧ σ' = [[.dead, .dead] ++ [.cells r.length (nE r)], []] ∧ x = .exit 0 ∧ get e 15 = .sl 1 [Blk.dead, .dead].length r.length 0 r.length 1 ∧
        get e 7 = .own 0 [.int .i64 s.w, .int .i64 s.lv, sqD s] ∧ get e 8 = .lst pl.length (nE pl) ∧ get e 10 = .lst W ((gI W (Gr s)).flatMap intE)) →
        outC 0 (thenC (lim T) (((Cmd.frz [15]).seq (Cmd.reg [8, 15, 17, 18] f_law04_TrialPlans_r23)).seq ((Cmd.reg [6] f_law04_TrialPlans_r24).seq Cmd.ret)) (endC [[]] [Res.t 6] (D.bool true))) .mk x e σ' := by
      rintro x e σ' ⟨r', hr', rfl, rfl, g15, g7, g8, g10⟩
      rw [List.nil_append, hr] at hr'
      subst hr'
      have zz := zo2 r'
      by_cases hlt : r'.length < pl.length
      · have h4 := hlt5 hlt
        rcases hbad' hlt with rfl | rfl
        · simp [-List.length_flatMap, -List.map_take, e_law04_TrialPlans_r23, e_law04_TrialPlans_r24, g15, g7, g8, g10, zz, hK2, h4, hq1, hq2, C_wakesD3]
        · cases d2
          · simp [-List.length_flatMap, -List.map_take, e_law04_TrialPlans_r23, e_law04_TrialPlans_r24, g15, g7, g8, g10, zz, hK2, h4, hq1, hq2, C_wakesD3]
          · simp [-List.length_flatMap, -List.map_take, e_law04_TrialPlans_r23, e_law04_TrialPlans_r24, g15, g7, g8, g10, zz, hK2, h4, hq1, hq2, C_wakesD3]
      · have h4 := hlt4 hlt
        simp [-List.length_flatMap, -List.map_take, e_law04_TrialPlans_r23, e_law04_TrialPlans_r24, g15, g7, g8, g10, zz, hK2, h4, hq1, hq2, C_wakesD3]
    rcases hgood (gI W (Gr s)) hgl hgf with hg | hg
    · simp only [hg] at hk1
      simp [-List.length_flatMap, -List.map_take, e_law04_TrialPlans_r0, e_law04_TrialPlans_r1, e_law04_TrialPlans_r2, e_law04_TrialPlans_r3, e_law04_TrialPlans_r4, e_law04_TrialPlans_r5, e_law04_TrialPlans_r6, e_law04_TrialPlans_r7, e_law04_TrialPlans_r8, e_law04_TrialPlans_r9, e_law04_TrialPlans_r10, e_law04_TrialPlans_r11, e_law04_TrialPlans_r12, e_law04_TrialPlans_r13, e_law04_TrialPlans_r14, e_law04_TrialPlans_r15, e_law04_TrialPlans_r16, e_law04_TrialPlans_r17, e_law04_TrialPlans_r18, e_law04_TrialPlans_r19, e_law04_TrialPlans_r20, e_law04_TrialPlans_r21, e_law04_TrialPlans_r23, e_law04_TrialPlans_r24, h1, hF, h0, hv, hS, hG, hPl', hq1, hq2, hD, hT, hd, hq, h5d, h5p, h7, z1, z2, h8, hk1]
      refine WL.to hLo (by simp [othE, nE]) (by simp [nE]) fin
    · simp only [hg] at hk1
      simp [-List.length_flatMap, -List.map_take, e_law04_TrialPlans_r0, e_law04_TrialPlans_r1, e_law04_TrialPlans_r2, e_law04_TrialPlans_r3, e_law04_TrialPlans_r4, e_law04_TrialPlans_r5, e_law04_TrialPlans_r6, e_law04_TrialPlans_r7, e_law04_TrialPlans_r8, e_law04_TrialPlans_r9, e_law04_TrialPlans_r10, e_law04_TrialPlans_r11, e_law04_TrialPlans_r12, e_law04_TrialPlans_r13, e_law04_TrialPlans_r14, e_law04_TrialPlans_r15, e_law04_TrialPlans_r16, e_law04_TrialPlans_r17, e_law04_TrialPlans_r18, e_law04_TrialPlans_r19, e_law04_TrialPlans_r20, e_law04_TrialPlans_r21, e_law04_TrialPlans_r23, e_law04_TrialPlans_r24, h1, hF, h0, hv, hS, hG, hPl', hq1, hq2, hD, hT, hd, hq, h5d, h5p, h7, z1, z2, h8, hk1]
      refine WL.to hLo (by simp [othE, nE]) (by simp [nE]) fin
  · have hfd := fit_iff.1 hd
    have hk1 := fun σ hσ => hK1 σ hσ (dvF W b) (dv_len W b) hfd
    have hLo := L_oth hW (by omega) hn (s := s) (pl := pl) (pre := [.dead]) (.inl rfl) W 0 [] (by omega) (by simp)
    have fin : ∀ (x : Abs.Exit) (e : Env) (σ' : Stack), (∃ r, r = [] ++ (List.range' 0 W).filter (fun i => n.testBit i) ∧ σ' = [[.dead] ++ [.cells r.length (nE r)], []] ∧ x = .exit 0 ∧ get e 15 = .sl 1 [Blk.dead].length r.length 0 r.length 1 ∧
        get e 7 = .own 0 [.int .i64 s.w, .int .i64 s.lv, sqD s] ∧ get e 8 = .lst pl.length (nE pl) ∧ get e 10 = .lst W ((gI W (Gr s)).flatMap intE)) →
        outC 0 (thenC (lim T) (((Cmd.frz [15]).seq (Cmd.reg [8, 15, 17, 18] f_law04_TrialPlans_r23)).seq ((Cmd.reg [6] f_law04_TrialPlans_r24).seq Cmd.ret)) (endC [[]] [Res.t 6] (D.bool true))) .mk x e σ' := by
      rintro x e σ' ⟨r', hr', rfl, rfl, g15, g7, g8, g10⟩
      rw [List.nil_append, hr] at hr'
      subst hr'
      have zz := zo1 r'
      by_cases hlt : r'.length < pl.length
      · have h4 := hlt5 hlt
        rcases hbad' hlt with rfl | rfl
        · simp [-List.length_flatMap, -List.map_take, e_law04_TrialPlans_r23, e_law04_TrialPlans_r24, g15, g7, g8, g10, zz, hK2, h4, hq1, hq2, C_wakesDD]
        · cases d2
          · simp [-List.length_flatMap, -List.map_take, e_law04_TrialPlans_r23, e_law04_TrialPlans_r24, g15, g7, g8, g10, zz, hK2, h4, hq1, hq2, C_wakesDD]
          · simp [-List.length_flatMap, -List.map_take, e_law04_TrialPlans_r23, e_law04_TrialPlans_r24, g15, g7, g8, g10, zz, hK2, h4, hq1, hq2, C_wakesDD]
      · have h4 := hlt4 hlt
        simp [-List.length_flatMap, -List.map_take, e_law04_TrialPlans_r23, e_law04_TrialPlans_r24, g15, g7, g8, g10, zz, hK2, h4, hq1, hq2, C_wakesDD]
    rcases hgood (dvF W b) (dv_len W b) hfd with hg | hg
    · simp only [hg] at hk1
      simp [-List.length_flatMap, -List.map_take, e_law04_TrialPlans_r0, e_law04_TrialPlans_r1, e_law04_TrialPlans_r2, e_law04_TrialPlans_r3, e_law04_TrialPlans_r4, e_law04_TrialPlans_r5, e_law04_TrialPlans_r6, e_law04_TrialPlans_r7, e_law04_TrialPlans_r8, e_law04_TrialPlans_r9, e_law04_TrialPlans_r10, e_law04_TrialPlans_r11, e_law04_TrialPlans_r12, e_law04_TrialPlans_r13, e_law04_TrialPlans_r14, e_law04_TrialPlans_r15, e_law04_TrialPlans_r16, e_law04_TrialPlans_r17, e_law04_TrialPlans_r18, e_law04_TrialPlans_r19, e_law04_TrialPlans_r20, e_law04_TrialPlans_r21, e_law04_TrialPlans_r23, e_law04_TrialPlans_r24, h1, hF, h0, hv, hS, hG, hPl', hq1, hq2, hD, hT, hd, hq, h5d, h5p, h7, z1, h8, hk1]
      refine WL.to hLo (by simp [othE, nE]) (by simp [nE]) fin
    · simp only [hg] at hk1
      simp [-List.length_flatMap, -List.map_take, e_law04_TrialPlans_r0, e_law04_TrialPlans_r1, e_law04_TrialPlans_r2, e_law04_TrialPlans_r3, e_law04_TrialPlans_r4, e_law04_TrialPlans_r5, e_law04_TrialPlans_r6, e_law04_TrialPlans_r7, e_law04_TrialPlans_r8, e_law04_TrialPlans_r9, e_law04_TrialPlans_r10, e_law04_TrialPlans_r11, e_law04_TrialPlans_r12, e_law04_TrialPlans_r13, e_law04_TrialPlans_r14, e_law04_TrialPlans_r15, e_law04_TrialPlans_r16, e_law04_TrialPlans_r17, e_law04_TrialPlans_r18, e_law04_TrialPlans_r19, e_law04_TrialPlans_r20, e_law04_TrialPlans_r21, e_law04_TrialPlans_r23, e_law04_TrialPlans_r24, h1, hF, h0, hv, hS, hG, hPl', hq1, hq2, hD, hT, hd, hq, h5d, h5p, h7, z1, h8, hk1]
      refine WL.to hLo (by simp [othE, nE]) (by simp [nE]) fin
abbrev tySeenQ : Ty := .struct [.int .i64, .int .i64, .struct [.int .i64, .int .i64]]
theorem seenQ_of {ds : List D} (h : tySeenQ.has ds) : ∃ x : Seen, ds = x.enc ∧ True := by
  obtain ⟨_, _, rfl, ⟨f, rfl, _⟩, _, _, rfl, ⟨t, rfl, _⟩, _, _, rfl, ⟨_, _, rfl, ⟨a, rfl, _⟩, _, _, rfl, ⟨b, rfl, _⟩, rfl⟩, rfl⟩ := h
  exact ⟨⟨f, t, ⟨a, b⟩⟩, rfl, trivial⟩
theorem survQ_of {d : D} (h : (Ty.struct [.int .i64, .int .i64, .slice 4 tySeenQ]).hasV d) : ∃ s : Surv, d = .agg s.enc := by
  obtain ⟨ds, rfl, h⟩ := h
  obtain ⟨_, _, rfl, ⟨w, rfl, _⟩, _, _, rfl, ⟨lv, rfl, _⟩, _, _, rfl, hs, rfl⟩ := h
  obtain ⟨d, rfl⟩ := slice_one hs
  obtain ⟨l, rfl, hl, _⟩ := rows_of (fun ds h => seenQ_of h) hs
  exact ⟨⟨w, lv, l⟩, rfl⟩
theorem wf_u64 {n : Int} (h : (Lit.int .u64 n).wf = true) : 0 ≤ n ∧ n ≤ 18446744073709551615 := by
  simp only [Lit.wf, Bool.and_eq_true, decide_eq_true_eq] at h
  exact h
theorem u64_of {d : D} (h : (Ty.int .u64).hasV d) : ∃ n : Nat, d = .int .u64 n ∧ n < 18446744073709551616 := by
  simp only [Ty.hasV, Ty.has, List.cons.injEq, and_true] at h
  obtain ⟨n, rfl, hw⟩ := h
  have := wf_u64 hw
  obtain ⟨m, rfl⟩ : ∃ m : Nat, n = m := ⟨n.toNat, by omega⟩
  exact ⟨m, rfl, by omega⟩
theorem wf_u16 {n : Int} (h : (Lit.int .u16 n).wf = true) : 0 ≤ n ∧ n ≤ 65535 := by
  simp only [Lit.wf, Bool.and_eq_true, decide_eq_true_eq] at h
  exact h
theorem u16_of {d : D} (h : (Ty.int .u16).hasV d) : ∃ n : Nat, d = .int .u16 n ∧ n < 65536 := by
  simp only [Ty.hasV, Ty.has, List.cons.injEq, and_true] at h
  obtain ⟨n, rfl, hw⟩ := h
  have := wf_u16 hw
  obtain ⟨m, rfl⟩ : ∃ m : Nat, n = m := ⟨n.toNat, by omega⟩
  exact ⟨m, rfl, by omega⟩
theorem go_TrialPlans (x0 x1 x2 : D) (t0 : (Ty.struct [.int .i64, .int .i64, .slice 4 tySeenQ]).hasV x0) (t1 : (Ty.int .u64).hasV x1) (t2 : (Ty.int .u16).hasV x2) :
    ∃ σ', lim T (.call false i_law04_TrialPlans [x0, x1, x2] [[]]) = some (.val (.bool true) σ') := by
  obtain ⟨s, rfl⟩ := survQ_of t0
  obtain ⟨b, rfl, hb⟩ := u64_of t1
  obtain ⟨z, rfl, hz⟩ := u16_of t2
  exact ⟨_, law_Plans hb hz⟩
end Go.Proofs.Ytcjjdaifpboaaaa
