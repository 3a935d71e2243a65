/-
  Plain law of plans: the least plan decides all, a smaller set does not.
-/
import Derived.Test.YtcjjdaifpboaaaaS17
set_option linter.unusedVariables false
set_option linter.unusedSimpArgs false
namespace Go.Proofs.Ytcjjdaifpboaaaa
open Go Go.Abs Go.Trial
variable {σ : Stack}

theorem relOf_symm (s : Surv) (a b : Nat) : relOf s a b = relOf s b a := by
  have h : against s a b = against s b a := by
    funext x
    unfold against
    rw [Bool.or_comm]
  unfold relOf
  rw [h]
  by_cases h : Gr s a = Gr s b
  · rw [if_pos h, if_pos h.symm]
  · have h' : ¬ Gr s b = Gr s a := fun e => h e.symm
    rw [if_neg h, if_neg h']
theorem relOf_class {s : Surv} {a a' : Nat} (h : Gr s a = Gr s a') (b : Nat) : relOf s a b = relOf s a' b := by
  have e : against s a b = against s a' b := by
    funext x
    unfold against
    rw [h]
  unfold relOf
  rw [e, h]
/-- What pulses of wells have made of a survey. -/
structure Made (s s' : Surv) (ps : List Int) (ws : List Nat) : Prop where
  more : More s s'
  sv : Sv s'
  fit : Fit s' (pF ps)
  known : ∀ K ∈ ws, ∀ a, a < s.w.toNat → relOf s' K a ≠ 1
  new : ∀ x ∈ s'.l, x ∈ s.l ∨ x.f.toNat ∈ ws
theorem kn_made {ps : List Int} {W : Nat} (hp : ps.length = W) : ∀ (ws : List Nat) (s : Surv) {s' : Surv}, (∀ w ∈ ws, w < W) → Sv s → -2000000000 < s.lv → s.w = W → Fit s (pF ps) → kn ps ws s = some s' → Made s s' ps ws
  | [], s, s', hws, h, hlv, hW, hf, hk => by
    simp only [kn, Option.some.injEq] at hk
    subst hk
    exact ⟨⟨rfl, rfl, fun x hx => hx⟩, h, hf, by simp, fun x hx => .inl hx⟩
  | w :: ws, s, s', hws, h, hlv, hW, hf, hk => by
    simp only [kn] at hk
    rcases pulsed_or h hlv hW hp (hws w (by simp)) hf with hp3 | ⟨s1, hp0, hw', hlv', hpu, hne, hmem⟩
    · rw [hp3] at hk
      cases hk
    · rw [hp0] at hk
      have ih := kn_made hp ws s1 (fun x hx => hws x (by simp [hx])) hpu.sv (by omega) (by omega) hpu.fit hk
      refine ⟨⟨by rw [ih.more.w, hw'], by rw [ih.more.lv, hlv'], fun x hx => ih.more.l x (hpu.more.l x hx)⟩, ih.sv, ih.fit, fun K hK a ha => ?_, fun x hx => ?_⟩
      · rcases List.mem_cons.1 hK with rfl | hK
        · have h1 := hpu.known a ha
          rw [more_rel ih.more ih.sv ih.fit h1]
          exact h1
        · exact ih.known K hK a (by rw [hw']; exact ha)
      · rcases ih.new x hx with hx | hx
        · rcases hmem x hx with hx | ⟨v, h1, h2, rfl⟩
          · exact .inl hx
          · right
            simp [pulS]
        · exact .inr (List.mem_cons_of_mem _ hx)
theorem okB_iff {s : Surv} {l : List Nat} {a : Nat} : ∀ (m b : Nat), okB s l a m b = true ↔ ∀ c, b ≤ c → c < b + m → okP s l a c = true
  | 0, b => by simp only [okB, true_iff]; intro c h1 h2; omega
  | m + 1, b => by
    simp only [okB, Bool.and_eq_true, okB_iff m]
    constructor
    · rintro ⟨h1, h2⟩ c h3 h4
      by_cases e : c = b
      · subst e; exact h1
      · exact h2 c (by omega) (by omega)
    · intro h
      exact ⟨h b (Nat.le_refl _) (by omega), fun c h1 h2 => h c (by omega) (by omega)⟩
theorem decF_iff {s : Surv} {l : List Nat} : ∀ (m a : Nat), decF s l m a = true ↔ ∀ c, a ≤ c → c < a + m → ∀ d, d < c → okP s l c d = true
  | 0, b => by simp only [decF, true_iff]; intro c h1 h2; omega
  | m + 1, b => by
    simp only [decF, Bool.and_eq_true, okB_iff, decF_iff m]
    constructor
    · rintro ⟨h1, h2⟩ c h3 h4 d hd
      by_cases e : c = b
      · subst e; exact h1 d (Nat.zero_le _) (by omega)
      · exact h2 c (by omega) (by omega) d hd
    · intro h
      exact ⟨fun c h1 h2 => h b (Nat.le_refl _) (by omega) c (by omega), fun c h1 h2 => h c (by omega) (by omega)⟩
theorem decS_iff {s : Surv} {l : List Nat} : decS s l = true ↔ ∀ a b, a < s.w.toNat → b < a → relOf s a b = 1 → puls s l a = true ∨ puls s l b = true := by
  unfold decS
  rw [decF_iff]
  constructor
  · intro h a b ha hb hr
    have := h a (Nat.zero_le _) (by omega) b hb
    simp only [okP, hr, decide_true, Bool.not_true, Bool.false_or, Bool.or_eq_true] at this
    exact this
  · intro h a h1 h2 b hb
    simp only [okP, Bool.or_eq_true]
    by_cases hr : relOf s a b = 1
    · right
      exact h a b (by omega) hb hr
    · left
      rw [decide_eq_false hr]
      rfl
theorem puls_iff {s : Surv} {l : List Nat} {a : Nat} : puls s l a = true ↔ ∃ x ∈ l, Gr s x = Gr s a := by
  unfold puls
  rw [anyB_iff]
  simp
/-- Behind the pulses of a set that decides nothing is open. -/
theorem made_all {s s' : Surv} {ps : List Int} {ws : List Nat} {W : Nat} (hW : s.w = W) (hws : ∀ w ∈ ws, w < W) (hm : Made s s' ps ws) (hd : decS s ws = true) : kA s' W W 0 = true := by
  have e0 : s.w.toNat = W := by omega
  have hp : ∀ a b, b < W → puls s ws a = true → relOf s' a b ≠ 1 := fun a b hb hpu => by
    obtain ⟨x, hx, hg⟩ := puls_iff.1 hpu
    rw [← relOf_class (more_same hm.more hm.sv hg)]
    exact hm.known x hx b (by omega)
  have key : ∀ a b, a < W → b < a → relOf s' a b ≠ 1 := fun a b ha hb => by
    by_cases hr : relOf s a b = 1
    · rcases decS_iff.1 hd a b (by omega) hb hr with h | h
      · exact hp a b (by omega) h
      · rw [relOf_symm]
        exact hp b a ha h
    · rw [more_rel hm.more hm.sv hm.fit hr]
      exact hr
  rw [kA_iff]
  intro c _ hc d hd
  rcases Nat.lt_trichotomy d c with h | h | h
  · exact key c d (by omega) h
  · subst h
    unfold relOf
    rw [if_pos rfl]
    decide
  · rw [relOf_symm]
    exact key d c hd h
/-- A set that does not decide leaves something open, where the groups are the division. -/
theorem made_open {s s' : Surv} (h : Sv s) {ws : List Nat} {W : Nat} (hW : s.w = W) (hws : ∀ w ∈ ws, w < W) (hm : Made s s' (gI W (Gr s)) ws) (hd : decS s ws = false) : kA s' W W 0 = false := by
  have e0 : s.w.toNat = W := by omega
  have hn : ¬ ∀ a b, a < s.w.toNat → b < a → relOf s a b = 1 → puls s ws a = true ∨ puls s ws b = true := fun hh => by
    rw [decS_iff.2 hh] at hd
    cases hd
  have hex : ∃ a b, a < W ∧ b < a ∧ relOf s a b = 1 ∧ puls s ws a = false ∧ puls s ws b = false := by
    apply Classical.byContradiction
    intro hno
    apply hn
    intro a b ha hb hr
    apply Classical.byContradiction
    intro hpp
    simp only [not_or, Bool.not_eq_true] at hpp
    exact hno ⟨a, b, by omega, hb, hr, hpp.1, hpp.2⟩
  obtain ⟨a, b, ha, hb, hr, hpa, hpb⟩ := hex
  have hG : ∀ x y, x < W → y < W → Gr s' x = Gr s' y → Gr s x = Gr s y := fun x y hx hy he => by
    have := fit_same hm.fit he
    have e : ∀ v, v < W → pF (gI W (Gr s)) v = (Gr s v : Int) := fun v hv => by simp [pF, gI_at hv]
    rw [e x hx, e y hy] at this
    omega
  have hne : Gr s a ≠ Gr s b := fun he => by
    unfold relOf at hr
    rw [if_pos he] at hr
    cases hr
  have hno : anyB s.l (against s a b) = false := by
    cases hA : anyB s.l (against s a b)
    · rfl
    · unfold relOf at hr
      rw [if_neg hne, hA] at hr
      cases hr
  have hnp : ∀ x ∈ ws, Gr s x ≠ Gr s a ∧ Gr s x ≠ Gr s b := fun x hx => by
    constructor
    · intro he
      rw [puls_iff.2 ⟨x, hx, he⟩] at hpa
      cases hpa
    · intro he
      rw [puls_iff.2 ⟨x, hx, he⟩] at hpb
      cases hpb
  have hr' : relOf s' a b = 1 := by
    have hn1 : Gr s' a ≠ Gr s' b := fun he => hne (hG a b ha (by omega) he)
    have hn2 : anyB s'.l (against s' a b) = false := by
      cases hA : anyB s'.l (against s' a b)
      · rfl
      · exfalso
        obtain ⟨x, hx, hax⟩ := anyB_iff.1 hA
        simp only [against, Bool.and_eq_true, Bool.or_eq_true, decide_eq_true_eq] at hax
        obtain ⟨hg, hab⟩ := hax
        have hv := hm.sv.l x hx
        have hw' := hm.more.w
        have hxf : x.f.toNat < W := by omega
        have hxt : x.t.toNat < W := by omega
        have hab' : (Gr s x.f.toNat = Gr s a ∧ Gr s x.t.toNat = Gr s b) ∨ (Gr s x.f.toNat = Gr s b ∧ Gr s x.t.toNat = Gr s a) := by
          rcases hab with ⟨h1, h2⟩ | ⟨h1, h2⟩
          · exact .inl ⟨hG _ _ hxf ha h1, hG _ _ hxt (by omega) h2⟩
          · exact .inr ⟨hG _ _ hxf (by omega) h1, hG _ _ hxt ha h2⟩
        rcases hm.new x hx with hx | hx
        · have : anyB s.l (against s a b) = true := by
            rw [anyB_iff]
            refine ⟨x, hx, ?_⟩
            simp only [against, Bool.and_eq_true, Bool.or_eq_true, decide_eq_true_eq]
            rw [more_agin hm.more] at hg
            exact ⟨hg, hab'⟩
          rw [this] at hno
          cases hno
        · have := hnp _ hx
          rcases hab' with ⟨h1, _⟩ | ⟨h1, _⟩
          · exact this.1 h1
          · exact this.2 h1
    unfold relOf
    rw [if_neg hn1, hn2]
    rfl
  cases hk : kA s' W W 0
  · rfl
  · exact absurd hr' (kA_iff W 0 |>.1 hk a (Nat.zero_le _) (by omega) b (by omega))
theorem planL_least {s : Surv} {W : Nat} (hW : s.w = W) : Least W (decS s) (planL s) := by
  have e0 : s.w.toNat = W := by omega
  unfold planL
  rw [e0]
  refine plan_least ?_ (W + 1) 0 (by omega) fun j hj => by omega
  have := @decS_full s
  rwa [e0] at this
theorem less_open {s : Surv} {W : Nat} (hW : s.w = W) {c : List Nat} (hc : Asc W 0 c) (hl : c.length < (planL s).length) : decS s c = false := by
  cases hd : decS s c
  · rfl
  · have := (planL_least hW).min c hc hd
    unfold bef at this
    rw [if_neg (by omega)] at this
    simp only [decide_eq_false_iff_not] at this
    omega

/-! ### All known -/

def knD (W : Nat) : Option Surv → D
  | none => .tup [.bool false, .bool false]
  | some s' => .tup [.bool (kA s' W W 0), .bool true]
theorem C_known {s : Surv} (h : Sv s) (hlv : -2000000000 < s.lv) {ps : List Int} {W : Nat} (hW : s.w = W) (hp : ps.length = W) {ws : List Nat} (hws : ∀ w ∈ ws, w < W) (hwl : ws.length ≤ W) (hf : Fit s (pF ps)) (hσ : σ ≠ []) :
    lim T (.call false i_law04_known [.agg [.int .i64 s.w, .int .i64 s.lv, sqD s], .lst ws.length (nE ws), .lst W (ps.flatMap intE)] σ) = some (.val (knD W (kn ps ws s)) σ) := by
  have hw := h.w
  have hn := h.n
  refine call_of T_law04_known e_law04_known rfl ?_
  obtain ⟨c1, c2⟩ := sqD_flat s
  simp [-List.length_flatMap, -List.map_take, e_law04_known_r0, e_law04_known_r1, e_law04_known_r2, e_law04_known_r3, e_law04_known_r4, e_law04_known_r5, e_law04_known_r6, e_law04_known_r7, e_law04_known_r8, e_law04_known_r9, e_law04_known_r10, e_law04_known_r12, e_law04_known_r13, e_law04_known_r14, e_law04_known_r15, e_law04_known_r16, e_law04_known_r17, e_law04_known_r18, e_law04_known_r19, e_law04_known_r20, e_law04_known_r21, e_law04_known_r23, e_law04_known_r25, c1, c2]
  refine WL.to (L_kn0 (σ := σ) (by omega) hp hws (by omega) hσ ws.length 0 s (sqD s) (by omega) (sqD_blur s) (sqD_clean s) (.inr rfl) (by omega) h hlv hW hf) (by simp) rfl ?_
  rintro x e σ' ⟨rfl, hh⟩
  rw [List.drop_zero] at hh
  cases hk : kn ps ws s with
  | none =>
    rw [hk] at hh
    obtain ⟨rfl, g6, g7⟩ := hh
    simp [g6, g7, knD]
  | some s' =>
    rw [hk] at hh
    obtain ⟨rfl, q', hq', g8⟩ := hh
    have hm := kn_made hp ws s hws h hlv hW hf hk
    have hsn := hm.sv.n
    have hw' := hm.more.w
    have hR := fun σ (hσ : σ ≠ []) => @C_Relations σ s' q' hq' (by omega) hσ
    have h0 := sv_fault hm.sv
    have hc : ¬ 0 ≤ clash s' := by have := fit_clash hm.fit; omega
    have e0 : s'.w.toNat = W := by omega
    simp only [relD, h0, hc, if_true, if_false, e0] at hR
    simp [-List.length_flatMap, -List.map_take, e_law04_known_r12, e_law04_known_r13, e_law04_known_r14, e_law04_known_r15, g8, hR]
    refine WL.to (L_kn1 (σ := [] :: σ) (s := s') (W := W) (by omega) W 0 (by omega)) (by simp) rfl ?_
    rintro x e σ' ⟨rfl, hh⟩
    cases hA : kA s' W W 0
    · rw [hA] at hh
      simp only [Bool.false_eq_true, if_false] at hh
      obtain ⟨rfl, g6, g7⟩ := hh
      simp [g6, g7, knD, hA]
    · rw [hA] at hh
      simp only [if_true] at hh
      subst hh
      simp [-List.length_flatMap, -List.map_take, e_law04_known_r25, knD, hA]
end Go.Proofs.Ytcjjdaifpboaaaa
