/-
  Are all relations known after some wells were pulsed?
-/
import Derived.Test.YtcjjdaifpboaaaaS16
import Derived.Test.YtcjjdaifpboaaaaS9
set_option linter.unusedVariables false
set_option linter.unusedSimpArgs false
namespace Go.Proofs.Ytcjjdaifpboaaaa
open Go Go.Abs Go.Trial
variable {σ : Stack}

def nE (l : List Nat) : List D := l.map fun n : Nat => .int .i64 n
theorem nE_len {l : List Nat} : (nE l).length = l.length := by simp [nE]
theorem nE_app {l : List Nat} {x : Nat} : nE (l ++ [x]) = nE l ++ [.int .i64 x] := by simp [nE]
theorem nE_at {l : List Nat} {i x : Nat} (h : l[i]? = some x) : (nE l).drop i = .int .i64 x :: (nE l).drop (i + 1) := dropS (by simp [nE, h])
theorem nE_clean {l : List Nat} : D.cleanL (nE l) = true := by
  induction l with
  | nil => rfl
  | cons a l ih => simp only [nE, List.map_cons, D.cleanL, D.clean, Bool.true_and] at ih ⊢; exact ih
theorem pulsed_or {s : Surv} (h : Sv s) (hlv : -2000000000 < s.lv) {ps : List Int} {W K : Nat} (hW : s.w = W) (hp : ps.length = W) (hK : K < W) (hf : Fit s (pF ps)) :
    pulR s K ps = (3, none) ∨ ∃ s', pulR s K ps = (0, some s') ∧ s'.w = s.w ∧ s'.lv = s.lv ∧ Pulsed s s' ps K ∧ (2 ≤ W → s'.l ≠ []) ∧ (∀ x ∈ s'.l, x ∈ s.l ∨ ∃ v, v < W ∧ v ≠ K ∧ x = pulS s ps K v) := by
  obtain ⟨l, h1, h2, h3, h4⟩ := pulF_some hlv (ps := ps) (K := K) ps.length 0
  have hw := h.w
  have hv := h.lv
  have c1 : inn (K : Int) 0 (s.w - 1) = true := inn_iff.2 ⟨by omega, by omega⟩
  have c2 : decide ((ps.length : Int) = s.w) = true := decide_eq_true (by omega)
  have c3 := fit_iff.2 hf
  have hat : ∀ v, -2000000000 ≤ atOf s ps K v ∧ atOf s ps K v ≤ 2000000000 := fun v => by unfold atOf; split <;> omega
  have eR : pulR s K ps = if 60 < s.l.length + l.length then (3, none) else (0, some ⟨s.w, s.lv, s.l ++ l⟩) := by
    unfold pulR
    rw [c1, c2]
    simp only [Bool.and_self, if_true, Int.toNat_natCast, h1, c3]
  by_cases h60 : 60 < s.l.length + l.length
  · left; rw [eR, if_pos h60]
  right
  refine ⟨⟨s.w, s.lv, s.l ++ l⟩, by rw [eR, if_neg h60], rfl, rfl, ?_, fun h2W hnil => ?_, fun x hx => ?_⟩
  rotate_left
  · have hv : ∃ v, v < W ∧ v ≠ K := by
      by_cases hk0 : K = 0
      · exact ⟨1, by omega, by omega⟩
      · exact ⟨0, by omega, by omega⟩
    obtain ⟨v, hv1, hv2⟩ := hv
    have := h4 v (by omega) (by omega) hv2
    simp at hnil
    rw [hnil.2] at this
    simp at this
  · rcases List.mem_append.1 hx with hx | hx
    · exact .inl hx
    · obtain ⟨v, a, b, c, d⟩ := h3 x hx
      exact .inr ⟨v, by omega, c, d⟩
  have hm : More s ⟨s.w, s.lv, s.l ++ l⟩ := ⟨rfl, rfl, fun x hx => List.mem_append_left _ hx⟩
  have hsv : Sv ⟨s.w, s.lv, s.l ++ l⟩ := by
    refine ⟨by simp; omega, hw, hv, fun x hx => ?_⟩
    rcases List.mem_append.1 hx with hx | hx
    · exact h.l x hx
    · obtain ⟨v, a, b, c, rfl⟩ := h3 x hx
      have := hat v
      simp only [pulS]
      exact ⟨⟨by omega, by omega⟩, ⟨by omega, by omega⟩, by omega, by omega, by omega, by omega⟩
  have hfit : Fit ⟨s.w, s.lv, s.l ++ l⟩ (pF ps) := by
    intro x hx
    rcases List.mem_append.1 hx with hx | hx
    · exact hf x hx
    · obtain ⟨v, a, b, c, rfl⟩ := h3 x hx
      have e1 : pAt ps (v : Int) = pF ps v := rfl
      have e2 : pAt ps (K : Int) = pF ps K := rfl
      by_cases he : pF ps v = pF ps K
      · have e3 : atOf s ps K v = s.lv := by unfold atOf; rw [e1, e2, if_pos he]
        simp only [pulS, sure, agin, e3, Int.toNat_natCast, decide_eq_true_eq]
        exact ⟨fun _ => he.symm, fun hh => by omega⟩
      · have e3 : atOf s ps K v = s.lv - 1 := by unfold atOf; rw [e1, e2, if_neg he]
        simp only [pulS, sure, agin, e3, Int.toNat_natCast, decide_eq_true_eq]
        exact ⟨fun hh => by omega, fun _ hh => he hh.symm⟩
  refine ⟨hm, hsv, hfit, fun a ha => known_rel hsv fun hne => ?_⟩
  refine ⟨pulS s ps K a, List.mem_append_right _ (h4 a (by omega) (by omega) (fun e => hne e.symm)), by simp [pulS], by simp [pulS], ?_⟩
  have e1 : pAt ps (a : Int) = pF ps a := rfl
  have e2 : pAt ps (K : Int) = pF ps K := rfl
  by_cases he : pF ps a = pF ps K
  · have e3 : atOf s ps K a = s.lv := by unfold atOf; rw [e1, e2, if_pos he]
    left
    simp only [pulS, sure, e3, decide_eq_true_eq]
    omega
  · have e3 : atOf s ps K a = s.lv - 1 := by unfold atOf; rw [e1, e2, if_neg he]
    right
    simp only [pulS, agin, e3, decide_eq_true_eq]
    omega
/-- Pulsed, one after another; none: too many observations. -/
def kn (ps : List Int) : List Nat → Surv → Option Surv
  | [], s => some s
  | w :: ws, s => match pulR s w ps with
    | (0, some s') => kn ps ws s'
    | _ => none
def kB (s : Surv) (a : Nat) : Nat → Nat → Bool
  | 0, _ => true
  | m + 1, b => !decide (relOf s a b = 1) && kB s a m (b + 1)
def kA (s : Surv) (W : Nat) : Nat → Nat → Bool
  | 0, _ => true
  | m + 1, a => kB s a W 0 && kA s W m (a + 1)
theorem kB_iff {s : Surv} {a : Nat} : ∀ (m b : Nat), kB s a m b = true ↔ ∀ c, b ≤ c → c < b + m → relOf s a c ≠ 1
  | 0, b => by simp only [kB, true_iff]; intro c h1 h2; omega
  | m + 1, b => by
    simp only [kB, Bool.and_eq_true, Bool.not_eq_true', decide_eq_false_iff_not, kB_iff m]
    constructor
    · rintro ⟨h1, h2⟩ c h3 h4
      by_cases e : c = b
      · subst e; exact h1
      · exact h2 c (by omega) (by omega)
    · intro h
      exact ⟨h b (Nat.le_refl _) (by omega), fun c h1 h2 => h c (by omega) (by omega)⟩
theorem kA_iff {s : Surv} {W : Nat} : ∀ (m a : Nat), kA s W m a = true ↔ ∀ c, a ≤ c → c < a + m → ∀ d, d < W → relOf s c d ≠ 1
  | 0, b => by simp only [kA, true_iff]; intro c h1 h2; omega
  | m + 1, b => by
    simp only [kA, Bool.and_eq_true, kB_iff, kA_iff m]
    constructor
    · rintro ⟨h1, h2⟩ c h3 h4 d hd
      by_cases e : c = b
      · subst e; exact h1 d (Nat.zero_le _) (by omega)
      · exact h2 c (by omega) (by omega) d hd
    · intro h
      exact ⟨fun c h1 h2 => h b (Nat.le_refl _) (by omega) c (by omega), fun c h1 h2 => h c (by omega) (by omega)⟩
theorem relM_at' {s : Surv} {W a : Nat} (h : a < W) : (relM s W).drop a = rowD s W a :: (relM s W).drop (a + 1) := dropS (by simp [relM, h])
theorem relR_at' {s : Surv} {W a b : Nat} (h : b < W) : ((relR s W a).flatMap u8E).drop b = .int .u8 (relOf s a b) :: ((relR s W a).flatMap u8E).drop (b + 1) := by
  have := k_drop (f := u8E) (w := 1) (fun _ => rfl) (l := relR s W a) (i := b) (x := relOf s a b) (by simp [relR, h])
  simpa using this
theorem L_kn2 {s : Surv} {W : Nat} (hW : W ≤ 10) {a : Nat} (ha : a < W) : ∀ (m b : Nat), b + m = W →
    WL T [12, 14, 15] false f_law04_known_l22 [(12, .lst W (relM s W)), (14, .int .i64 a), (15, .int .i64 b)] σ
      (fun x e σ' => σ' = σ ∧ if kB s a m b then x = .exit 4 ∧ get e 12 = .lst W (relM s W) ∧ get e 14 = .int .i64 a else x = .ret ∧ get e 6 = .bool false ∧ get e 7 = .bool true)
  | 0, b, hb => by
    refine WL_step e_law04_known_l22 ?_
    have a1 := relM_at' (s := s) ha
    simp only [rowD] at a1
    have h1 : ¬ b < W := by omega
    simp [-List.length_flatMap, -List.map_take, e_law04_known_r0, e_law04_known_r1, e_law04_known_r2, e_law04_known_r3, e_law04_known_r4, e_law04_known_r5, e_law04_known_r6, e_law04_known_r7, e_law04_known_r8, e_law04_known_r9, e_law04_known_r10, e_law04_known_r12, e_law04_known_r13, e_law04_known_r14, e_law04_known_r15, e_law04_known_r16, e_law04_known_r17, e_law04_known_r18, e_law04_known_r19, e_law04_known_r20, e_law04_known_r21, e_law04_known_r23, e_law04_known_r25, ha, a1, h1, kB]
  | m + 1, b, hb => by
    refine WL_step e_law04_known_l22 ?_
    have w1 := w64 (n := (b : Int) + 1) (by omega)
    have hbW : b < W := by omega
    have ih := L_kn2 (s := s) hW ha m (b + 1) (by omega)
    have a1 := relM_at' (s := s) ha
    have a2 := relR_at' (s := s) (a := a) hbW
    simp only [rowD] at a1
    have e1 : kB s a (m + 1) b = (!decide (relOf s a b = 1) && kB s a m (b + 1)) := rfl
    rw [e1]
    by_cases hc : relOf s a b = 1
    · rw [decide_eq_true hc]
      simp [-List.length_flatMap, -List.map_take, e_law04_known_r0, e_law04_known_r1, e_law04_known_r2, e_law04_known_r3, e_law04_known_r4, e_law04_known_r5, e_law04_known_r6, e_law04_known_r7, e_law04_known_r8, e_law04_known_r9, e_law04_known_r10, e_law04_known_r12, e_law04_known_r13, e_law04_known_r14, e_law04_known_r15, e_law04_known_r16, e_law04_known_r17, e_law04_known_r18, e_law04_known_r19, e_law04_known_r20, e_law04_known_r21, e_law04_known_r23, e_law04_known_r25, w1, ha, hbW, a1, a2, hc]
    · rw [decide_eq_false hc]
      simp [-List.length_flatMap, -List.map_take, e_law04_known_r0, e_law04_known_r1, e_law04_known_r2, e_law04_known_r3, e_law04_known_r4, e_law04_known_r5, e_law04_known_r6, e_law04_known_r7, e_law04_known_r8, e_law04_known_r9, e_law04_known_r10, e_law04_known_r12, e_law04_known_r13, e_law04_known_r14, e_law04_known_r15, e_law04_known_r16, e_law04_known_r17, e_law04_known_r18, e_law04_known_r19, e_law04_known_r20, e_law04_known_r21, e_law04_known_r23, e_law04_known_r25, w1, ha, hbW, a1, a2, hc]
      exact WL.to ih (by simp) rfl fun x e σ' hh => hh
theorem L_kn1 {s : Surv} {W : Nat} (hW : W ≤ 10) : ∀ (m a : Nat), a + m = W →
    WL T [12, 14] false f_law04_known_l24 [(12, .lst W (relM s W)), (14, .int .i64 a)] σ
      (fun x e σ' => σ' = σ ∧ if kA s W m a then x = .exit 2 else x = .ret ∧ get e 6 = .bool false ∧ get e 7 = .bool true)
  | 0, a, hb => by
    refine WL_step e_law04_known_l24 ?_
    have h1 : ¬ a < W := by omega
    simp [-List.length_flatMap, -List.map_take, e_law04_known_r0, e_law04_known_r1, e_law04_known_r2, e_law04_known_r3, e_law04_known_r4, e_law04_known_r5, e_law04_known_r6, e_law04_known_r7, e_law04_known_r8, e_law04_known_r9, e_law04_known_r10, e_law04_known_r12, e_law04_known_r13, e_law04_known_r14, e_law04_known_r15, e_law04_known_r16, e_law04_known_r17, e_law04_known_r18, e_law04_known_r19, e_law04_known_r20, e_law04_known_r21, e_law04_known_r23, e_law04_known_r25, h1, kA]
  | m + 1, a, hb => by
    refine WL_step e_law04_known_l24 ?_
    have w1 := w64 (n := (a : Int) + 1) (by omega)
    have ha : a < W := by omega
    have ih := L_kn1 (s := s) hW m (a + 1) (by omega)
    have e1 : kA s W (m + 1) a = (kB s a W 0 && kA s W m (a + 1)) := rfl
    rw [e1]
    simp [-List.length_flatMap, -List.map_take, e_law04_known_r0, e_law04_known_r1, e_law04_known_r2, e_law04_known_r3, e_law04_known_r4, e_law04_known_r5, e_law04_known_r6, e_law04_known_r7, e_law04_known_r8, e_law04_known_r9, e_law04_known_r10, e_law04_known_r12, e_law04_known_r13, e_law04_known_r14, e_law04_known_r15, e_law04_known_r16, e_law04_known_r17, e_law04_known_r18, e_law04_known_r19, e_law04_known_r20, e_law04_known_r21, e_law04_known_r23, e_law04_known_r25, ha]
    refine WL.to (L_kn2 (σ := σ) (s := s) hW ha W 0 (by omega)) (by simp) rfl ?_
    rintro x e σ' ⟨hs, hh⟩
    have hs := hs.symm
    subst hs
    cases hq : kB s a W 0
    · rw [hq] at hh
      simp only [Bool.false_eq_true, if_false] at hh
      obtain ⟨rfl, g6, g7⟩ := hh
      simp [g6, g7]
    · rw [hq] at hh
      simp only [if_true] at hh
      obtain ⟨rfl, g12, g14⟩ := hh
      simp [-List.length_flatMap, -List.map_take, e_law04_known_r23, g12, g14, w1]
      exact WL.to ih (by simp) rfl fun x e σ' hh => hh
theorem sqD_clean (s : Surv) : (sqD s).clean = true := by
  unfold sqD
  split
  · rfl
  · exact k_clean (fun x => by simp) _
theorem zk {ps : List Int} {W : Nat} (hp : ps.length = W) : frz 0 16 (.sl (σ.length + 1) 0 1 0 W 1) ([.cells 1 (ps.flatMap intE)] :: [] :: σ) = (.lst W (ps.flatMap intE), [.dead] :: [] :: σ) := by
  subst hp; exact k_frz (f := intE) (w := 1) (fun _ => rfl) (fun x => by simp) (σ := [] :: σ) (by simp) rfl
theorem L_kn0 {ps : List Int} {W : Nat} (hW10 : W ≤ 10) (hp : ps.length = W) {ws : List Nat} (hws : ∀ w ∈ ws, w < W) (hwl : ws.length ≤ 100) (hσ : σ ≠ []) : ∀ (m i : Nat) (s : Surv) (q : D), i + m = ws.length → q.blur = .lst s.l.length (s.l.flatMap Seen.enc) → q.clean = true → (m = 0 ∨ q = sqD s) → (m ≤ 1 ∨ 2 ≤ W) → Sv s → -2000000000 < s.lv → s.w = W → Fit s (pF ps) →
    WL T [1, 2, 8, 9] true f_law04_known_l11 [(1, .lst ws.length (nE ws)), (2, .lst W (ps.flatMap intE)), (8, .own 0 [.int .i64 s.w, .int .i64 s.lv, q]), (9, .int .i64 i)] ([] :: σ)
      (fun x e σ' => σ' = [] :: σ ∧ match kn ps (ws.drop i) s with
        | none => x = .ret ∧ get e 6 = .bool false ∧ get e 7 = .bool false
        | some s' => x = .exit 0 ∧ ∃ q', q'.blur = .lst s'.l.length (s'.l.flatMap Seen.enc) ∧ get e 8 = .own 0 [.int .i64 s'.w, .int .i64 s'.lv, q'])
  | 0, i, s, q, hi, hq, hqc, hq2, hm2, h, hlv, hW, hf => by
    refine WL_stepS e_law04_known_l11 ?_
    have h1 : ¬ i < ws.length := by omega
    have h2 : ws.drop i = [] := List.drop_eq_nil_of_le (by omega)
    rw [h2]
    simp [-List.length_flatMap, -List.map_take, e_law04_known_r0, e_law04_known_r1, e_law04_known_r2, e_law04_known_r3, e_law04_known_r4, e_law04_known_r5, e_law04_known_r6, e_law04_known_r7, e_law04_known_r8, e_law04_known_r9, e_law04_known_r10, e_law04_known_r12, e_law04_known_r13, e_law04_known_r14, e_law04_known_r15, e_law04_known_r16, e_law04_known_r17, e_law04_known_r18, e_law04_known_r19, e_law04_known_r20, e_law04_known_r21, e_law04_known_r23, e_law04_known_r25, h1, kn]
    have k1 : (D.lst ws.length (nE ws)).clean = true := nE_clean (l := ws)
    have k2 : (D.lst W (ps.flatMap intE)).clean = true := k_clean (fun x => by simp) _
    have k3 : (D.own 0 [.int .i64 s.w, .int .i64 s.lv, q]).clean = true := by simp [hqc]
    rw [frz_clean k1 (by omega), frz_clean k2 (by omega), frz_clean k3 (by omega)]
    exact ⟨rfl, q, hq, rfl⟩
  | m + 1, i, s, q, hi, hq, hqc, hq2, hm2, h, hlv, hW, hf => by
    refine WL_stepS e_law04_known_l11 ?_
    have h1 : i < ws.length := by omega
    obtain ⟨w, hx⟩ : ∃ x, ws[i]? = some x := ⟨_, List.getElem?_eq_getElem h1⟩
    have h2 := nE_at hx
    have h4 := wnext h1 (by omega)
    have hwW := hws w (List.mem_of_getElem? hx)
    have hqe : q = sqD s := by rcases hq2 with h | h; omega; exact h
    subst hqe
    have hn := h.n
    have hP := fun σ (hσ : σ ≠ []) => @C_Pulse σ s (by omega) hσ w ps (by omega)
    rw [if_pos (sv_fault h), hp] at hP
    have h5 : (ps.flatMap intE).length = W := by rw [← hp]; simpa using flat_len (f := intE) (w := 1) (fun _ => rfl) ps
    have h7 : W * 8 ≤ room := by unfold room; omega
    obtain ⟨c1, c2⟩ := sqD_flat s
    rw [dropS hx]
    have hfz := zk (σ := σ) hp
    have hkn : kn ps (w :: ws.drop (i + 1)) s = match pulR s w ps with
      | (0, some s') => kn ps (ws.drop (i + 1)) s'
      | _ => none := rfl
    rw [hkn]
    have hcl := nE_clean (l := ws)
    have hcp : D.cleanL (ps.flatMap intE) = true := k_clean (fun x => by simp) _
    rcases pulsed_or h hlv hW hp hwW hf with hp3 | ⟨s', hp0, hw', hlv', hpu, hne, hmem⟩
    · rw [hp3] at hP ⊢
      simp only [pulO, z3v] at hP
      simp [-List.length_flatMap, -List.map_take, e_law04_known_r0, e_law04_known_r1, e_law04_known_r2, e_law04_known_r3, e_law04_known_r4, e_law04_known_r5, e_law04_known_r6, e_law04_known_r7, e_law04_known_r8, e_law04_known_r9, e_law04_known_r10, e_law04_known_r12, e_law04_known_r13, e_law04_known_r14, e_law04_known_r15, e_law04_known_r16, e_law04_known_r17, e_law04_known_r18, e_law04_known_r19, e_law04_known_r20, e_law04_known_r21, e_law04_known_r23, e_law04_known_r25, h1, h2, h4, h5, h7, c1, c2, hfz, hP]
    · rw [hp0] at hP ⊢
      simp only [pulO, Surv.enc] at hP
      have ih := L_kn0 hW10 hp hws hwl hσ m (i + 1) s' (.lst s'.l.length (s'.l.flatMap Seen.enc)) (by omega) rfl (k_clean (fun x => by simp) _) (by
        rcases hm2 with h | h
        · left; omega
        · right; unfold sqD; rw [if_neg (hne h)]) (by omega) hpu.sv (by omega) (by omega) hpu.fit
      simp [-List.length_flatMap, -List.map_take, e_law04_known_r0, e_law04_known_r1, e_law04_known_r2, e_law04_known_r3, e_law04_known_r4, e_law04_known_r5, e_law04_known_r6, e_law04_known_r7, e_law04_known_r8, e_law04_known_r9, e_law04_known_r10, e_law04_known_r12, e_law04_known_r13, e_law04_known_r14, e_law04_known_r15, e_law04_known_r16, e_law04_known_r17, e_law04_known_r18, e_law04_known_r19, e_law04_known_r20, e_law04_known_r21, e_law04_known_r23, e_law04_known_r25, h1, h2, h4, h5, h7, c1, c2, hfz, hP]
      have k1 : (D.lst ws.length (nE ws)).clean = true := hcl
      have k2 : (D.lst W (ps.flatMap intE)).clean = true := hcp
      have k4 : D.cleanL (s'.l.flatMap Seen.enc) = true := k_clean (fun x => by simp) _
      have k3 : (D.own 0 [.int .i64 s'.w, .int .i64 s'.lv, .lst s'.l.length (s'.l.flatMap Seen.enc)]).clean = true := by simp [k4]
      rw [frz_clean k1 (by omega), frz_clean k2 (by omega), frz_clean k3 (by omega)]
      exact WL.to ih (by simp) rfl fun x e σ' hh => hh
end Go.Proofs.Ytcjjdaifpboaaaa
