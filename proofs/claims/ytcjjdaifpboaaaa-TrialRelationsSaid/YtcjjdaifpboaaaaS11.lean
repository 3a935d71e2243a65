/-
  The least plan, of the reference: all sets.
-/
import Derived.Test.YtcjjdaifpboaaaaS10
set_option linter.unusedVariables false
set_option linter.unusedSimpArgs false
namespace Go.Proofs.Ytcjjdaifpboaaaa
open Go Go.Abs Go.Trial
variable {σ : Stack}

theorem metF_iff {s : Surv} {n a b : Nat} : ∀ (m w : Nat) (met : Bool), metF s n a b m w met = true ↔ met = true ∨ ∃ x, w ≤ x ∧ x < w + m ∧ n.testBit x = true ∧ (Gr s x = Gr s a ∨ Gr s x = Gr s b)
  | 0, w, met => by
    simp only [metF]
    exact ⟨.inl, fun h => h.elim id fun ⟨x, h1, h2, _⟩ => by omega⟩
  | m + 1, w, met => by
    simp only [metF, metF_iff m, Bool.or_eq_true, Bool.and_eq_true, decide_eq_true_eq]
    constructor
    · rintro ((h | ⟨h1, h2⟩) | ⟨x, h1, h2, h3, h4⟩)
      · exact .inl h
      · exact .inr ⟨w, Nat.le_refl _, by omega, h1, h2⟩
      · exact .inr ⟨x, by omega, by omega, h3, h4⟩
    · rintro (h | ⟨x, h1, h2, h3, h4⟩)
      · exact .inl (.inl h)
      · by_cases e : x = w
        · subst e; exact .inl (.inr ⟨h3, h4⟩)
        · exact .inr ⟨x, by omega, by omega, h3, h4⟩
theorem met_eq {s : Surv} {n a b W : Nat} (hn : n < 2 ^ W) (hW : W ≤ 10) : metF s n a b W 0 false = (puls s (memb n) a || puls s (memb n) b) := by
  rw [Bool.eq_iff_iff, metF_iff, Bool.or_eq_true]
  unfold puls
  rw [anyB_iff, anyB_iff]
  have hm : ∀ x, x ∈ memb n ↔ n.testBit x = true := by
    intro x
    simp only [memb, List.mem_filter, List.mem_range'_1]
    constructor
    · exact fun h => h.2
    · intro h
      refine ⟨⟨Nat.zero_le _, ?_⟩, h⟩
      apply Classical.byContradiction
      intro hx
      rw [Nat.testBit_lt_two_pow (Nat.lt_of_lt_of_le hn (Nat.pow_le_pow_right (by decide) (by omega : W ≤ x)))] at h
      cases h
  constructor
  · rintro (h | ⟨x, _, _, h3, h4 | h4⟩)
    · cases h
    · exact .inl ⟨x, (hm x).2 h3, by simpa using h4⟩
    · exact .inr ⟨x, (hm x).2 h3, by simpa using h4⟩
  · rintro (⟨x, h1, h2⟩ | ⟨x, h1, h2⟩)
    · have h3 := (hm x).1 h1
      refine .inr ⟨x, Nat.zero_le _, ?_, h3, .inl (by simpa using h2)⟩
      apply Classical.byContradiction
      intro hx
      rw [Nat.testBit_lt_two_pow (Nat.lt_of_lt_of_le hn (Nat.pow_le_pow_right (by decide) (by omega : W ≤ x)))] at h3
      cases h3
    · have h3 := (hm x).1 h1
      refine .inr ⟨x, Nat.zero_le _, ?_, h3, .inr (by simpa using h2)⟩
      apply Classical.byContradiction
      intro hx
      rw [Nat.testBit_lt_two_pow (Nat.lt_of_lt_of_le hn (Nat.pow_le_pow_right (by decide) (by omega : W ≤ x)))] at h3
      cases h3
theorem pow_w {W : Nat} (h : W ≤ 10) : 2 ^ W ≤ 1024 := Nat.pow_le_pow_right (n := 2) (by decide) h
theorem L_Ps2 {s : Surv} (h : Sv s) {W : Nat} (hW : s.w = W) {n : Nat} (hn : n < 2 ^ W) {a : Nat} (ha : a < W) : ∀ (m b : Nat), b + m = a →
    WL T [1, 2, 5, 6, 7] false f_ref04_Plans_l16 [(1, .int .i64 n), (2, .cref s.enc), (5, .lst W ((gI W (Gr s)).flatMap intE)), (6, .int .i64 a), (7, .int .i64 b)] σ
      (fun x e σ' => σ' = σ ∧ if okB s (memb n) a m b then x = .exit 2 ∧ get e 1 = .int .i64 n ∧ get e 2 = .cref s.enc ∧ get e 5 = .lst W ((gI W (Gr s)).flatMap intE) ∧ get e 6 = .int .i64 a else x = .ret ∧ get e 4 = .bool false)
  | 0, b, hb => by
    refine WL_step e_ref04_Plans_l16 ?_
    have h1 : ¬ b < a := by omega
    simp [-List.length_flatMap, -List.map_take, e_ref04_Plans_r0, e_ref04_Plans_r1, e_ref04_Plans_r2, e_ref04_Plans_r3, e_ref04_Plans_r4, e_ref04_Plans_r5, e_ref04_Plans_r6, e_ref04_Plans_r7, e_ref04_Plans_r8, e_ref04_Plans_r9, e_ref04_Plans_r10, e_ref04_Plans_r11, e_ref04_Plans_r13, e_ref04_Plans_r14, e_ref04_Plans_r15, e_ref04_Plans_r17, e_ref04_Plans_r19, h1, okB]
  | m + 1, b, hb => by
    refine WL_step e_ref04_Plans_l16 ?_
    have h1 : b < a := by omega
    have hw := h.w
    have w1 := w64 (n := (b : Int) + 1) (by omega)
    have ih := L_Ps2 h hW hn ha m (b + 1) (by omega)
    have hR := fun σ => @C_RelationR σ s h W hW a b ha (by omega)
    have hp := pow_w (W := W) (by omega)
    have e1 : okB s (memb n) a (m + 1) b = ((!decide (relOf s a b = 1) || (puls s (memb n) a || puls s (memb n) b)) && okB s (memb n) a m (b + 1)) := rfl
    rw [e1]
    by_cases c1 : relOf s a b = 1
    rotate_left
    · rw [decide_eq_false c1]
      simp [-List.length_flatMap, -List.map_take, e_ref04_Plans_r0, e_ref04_Plans_r1, e_ref04_Plans_r2, e_ref04_Plans_r3, e_ref04_Plans_r4, e_ref04_Plans_r5, e_ref04_Plans_r6, e_ref04_Plans_r7, e_ref04_Plans_r8, e_ref04_Plans_r9, e_ref04_Plans_r10, e_ref04_Plans_r11, e_ref04_Plans_r13, e_ref04_Plans_r14, e_ref04_Plans_r15, e_ref04_Plans_r17, e_ref04_Plans_r19, h1, w1, hR, c1]
      exact WL.to ih (by simp) rfl fun x e σ' hh => hh
    rw [decide_eq_true c1, ← met_eq hn (by omega)]
    simp [-List.length_flatMap, -List.map_take, e_ref04_Plans_r0, e_ref04_Plans_r1, e_ref04_Plans_r2, e_ref04_Plans_r3, e_ref04_Plans_r4, e_ref04_Plans_r5, e_ref04_Plans_r6, e_ref04_Plans_r7, e_ref04_Plans_r8, e_ref04_Plans_r9, e_ref04_Plans_r10, e_ref04_Plans_r11, e_ref04_Plans_r13, e_ref04_Plans_r14, e_ref04_Plans_r15, e_ref04_Plans_r17, e_ref04_Plans_r19, h1, hR, c1]
    refine WL.to (L_met (σ := σ) h hW (n := n) (a := a) (b := b) (by omega) ha (by omega) W 0 false (by omega)) (by simp) rfl ?_
    rintro x e σ' ⟨hs, rfl, g1, g2, g5, g6, g7, g8⟩
    have hs := hs.symm
    subst hs
    simp only [Surv.enc] at g2
    cases hm : metF s n a b W 0 false
    · rw [hm] at g8
      simp [-List.length_flatMap, -List.map_take, e_ref04_Plans_r13, e_ref04_Plans_r14, g1, g2, g5, g6, g7, g8]
    · rw [hm] at g8
      simp [-List.length_flatMap, -List.map_take, e_ref04_Plans_r13, e_ref04_Plans_r14, e_ref04_Plans_r15, g1, g2, g5, g6, g7, g8, w1]
      exact WL.to ih (by simp) rfl fun x e σ' hh => hh
theorem L_Ps1 {s : Surv} (h : Sv s) {W : Nat} (hW : s.w = W) {n : Nat} (hn : n < 2 ^ W) : ∀ (m a : Nat), a + m = W →
    WL T [1, 2, 5, 6] false f_ref04_Plans_l18 [(1, .int .i64 n), (2, .cref s.enc), (5, .lst W ((gI W (Gr s)).flatMap intE)), (6, .int .i64 a)] σ
      (fun x e σ' => σ' = σ ∧ if decF s (memb n) m a then x = .exit 0 else x = .ret ∧ get e 4 = .bool false)
  | 0, a, ha => by
    refine WL_step e_ref04_Plans_l18 ?_
    have h1 : ¬ (a : Int) < s.w := by omega
    simp [-List.length_flatMap, -List.map_take, e_ref04_Plans_r0, e_ref04_Plans_r1, e_ref04_Plans_r2, e_ref04_Plans_r3, e_ref04_Plans_r4, e_ref04_Plans_r5, e_ref04_Plans_r6, e_ref04_Plans_r7, e_ref04_Plans_r8, e_ref04_Plans_r9, e_ref04_Plans_r10, e_ref04_Plans_r11, e_ref04_Plans_r13, e_ref04_Plans_r14, e_ref04_Plans_r15, e_ref04_Plans_r17, e_ref04_Plans_r19, h1, decF]
  | m + 1, a, ha => by
    refine WL_step e_ref04_Plans_l18 ?_
    have h1 : (a : Int) < s.w := by omega
    have hw := h.w
    have w1 := w64 (n := (a : Int) + 1) (by omega)
    have ih := L_Ps1 h hW hn m (a + 1) (by omega)
    have e1 : decF s (memb n) (m + 1) a = (okB s (memb n) a a 0 && decF s (memb n) m (a + 1)) := rfl
    rw [e1]
    simp [-List.length_flatMap, -List.map_take, e_ref04_Plans_r0, e_ref04_Plans_r1, e_ref04_Plans_r2, e_ref04_Plans_r3, e_ref04_Plans_r4, e_ref04_Plans_r5, e_ref04_Plans_r6, e_ref04_Plans_r7, e_ref04_Plans_r8, e_ref04_Plans_r9, e_ref04_Plans_r10, e_ref04_Plans_r11, e_ref04_Plans_r13, e_ref04_Plans_r14, e_ref04_Plans_r15, e_ref04_Plans_r17, e_ref04_Plans_r19, h1]
    refine WL.to (L_Ps2 (σ := σ) h hW hn (a := a) (by omega) a 0 (by omega)) (by simp) rfl ?_
    rintro x e σ' ⟨hs, hh⟩
    have hs := hs.symm
    subst hs
    cases hq : okB s (memb n) a a 0
    · rw [hq] at hh
      simp only [Bool.false_eq_true, if_false] at hh
      obtain ⟨rfl, g3⟩ := hh
      simp [g3]
    · rw [hq] at hh
      simp only [if_true] at hh
      obtain ⟨rfl, g1, g2, g5, g6⟩ := hh
      simp only [Surv.enc] at g2
      simp [-List.length_flatMap, -List.map_take, e_ref04_Plans_r17, g1, g2, g5, g6, w1]
      exact WL.to ih (by simp) rfl fun x e σ' hh => hh
theorem C_Plans {s : Surv} (h : Sv s) {W : Nat} (hW : s.w = W) {n : Nat} (hn : n < 2 ^ W) : lim T (.call false i_ref04_Plans [.agg [.int .i64 s.w, .int .i64 s.lv, .lst s.l.length (s.l.flatMap Seen.enc)], .int .i64 n] σ) = some (.val (.bool (decS s (memb n))) σ) := by
  refine call_of T_ref04_Plans e_ref04_Plans rfl ?_
  have hG := fun σ (hσ : σ ≠ []) => @C_GroupsR σ s h hσ
  have e0 : s.w.toNat = W := by omega
  simp only [grp, gI_len, e0] at hG
  simp [-List.length_flatMap, -List.map_take, e_ref04_Plans_r0, e_ref04_Plans_r1, e_ref04_Plans_r2, e_ref04_Plans_r3, e_ref04_Plans_r4, e_ref04_Plans_r5, e_ref04_Plans_r6, e_ref04_Plans_r7, e_ref04_Plans_r8, e_ref04_Plans_r9, e_ref04_Plans_r10, e_ref04_Plans_r11, e_ref04_Plans_r13, e_ref04_Plans_r14, e_ref04_Plans_r15, e_ref04_Plans_r17, e_ref04_Plans_r19, hG]
  refine WL.to (L_Ps1 (σ := [] :: σ) h hW hn W 0 (by omega)) (by simp) rfl ?_
  rintro x e σ' ⟨rfl, hh⟩
  have e1 : decF s (memb n) W 0 = decS s (memb n) := by unfold decS; rw [e0]
  rw [e1] at hh
  cases hq : decS s (memb n)
  · rw [hq] at hh
    simp only [Bool.false_eq_true, if_false] at hh
    obtain ⟨rfl, g3⟩ := hh
    simp [g3]
  · rw [hq] at hh
    simp only [if_true] at hh
    subst hh
    simp [-List.length_flatMap, -List.map_take, e_ref04_Plans_r0, e_ref04_Plans_r1, e_ref04_Plans_r2, e_ref04_Plans_r3, e_ref04_Plans_r4, e_ref04_Plans_r5, e_ref04_Plans_r6, e_ref04_Plans_r7, e_ref04_Plans_r8, e_ref04_Plans_r9, e_ref04_Plans_r10, e_ref04_Plans_r11, e_ref04_Plans_r13, e_ref04_Plans_r14, e_ref04_Plans_r15, e_ref04_Plans_r17, e_ref04_Plans_r19]
theorem memb_len (n : Nat) : (memb n).length ≤ 10 := by
  have := List.length_filter_le (fun i => n.testBit i) (List.range' 0 10)
  simpa [memb] using this
/-- Two to the number of wells, as the code asks for it. -/
theorem two_w {w : Int} {W : Nat} (hW : w = W) (h : W ≤ 10) : IntKind.u64.wrap w = w ∧ IntKind.i64.wrap (2 ^ min w.toNat IntKind.i64.bits) = ((2 ^ W : Nat) : Int) := by
  subst hW
  refine ⟨u64w (by omega), ?_⟩
  have e : min ((W : Int).toNat) IntKind.i64.bits = W := by
    rw [Int.toNat_natCast]
    exact Nat.min_eq_left (by simp [IntKind.bits]; omega)
  rw [e]
  have := pow_w h
  rw [show (2 : Int) ^ W = ((2 ^ W : Nat) : Int) by simp]
  have key : ∀ P : Nat, P ≤ 1024 → IntKind.i64.wrap (P : Int) = P := fun P h => w64 (by omega)
  exact key _ this
theorem L_PlanR {s : Surv} (h : Sv s) {W : Nat} (hW : s.w = W) (hσ : σ ≠ []) : ∀ (m n : Nat) (best : List Nat), n + m = 2 ^ W → best.length ≤ 10 →
    WL T [1, 3, 4] false f_ref04_Plan_l8 [(1, .cref s.enc), (3, .lst best.length (nE best)), (4, .int .i64 n)] σ
      (fun x e σ' => σ' = σ ∧ x = .exit 0 ∧ get e 3 = .lst (refF W (decS s) m n best).length (nE (refF W (decS s) m n best)))
  | 0, n, best, hn, hb => by
    refine WL_step e_ref04_Plan_l8 ?_
    have hw := h.w
    obtain ⟨q1, q2⟩ := two_w hW (by omega)
    have h0 : ¬ s.w < 0 := by omega
    generalize 2 ^ W = P at *
    have h1 : ¬ n < P := by omega
    simp [-List.length_flatMap, -List.map_take, e_ref04_Plan_r0, e_ref04_Plan_r1, e_ref04_Plan_r2, e_ref04_Plan_r3, e_ref04_Plan_r4, e_ref04_Plan_r5, e_ref04_Plan_r6, e_ref04_Plan_r7, e_ref04_Plan_r9, q1, q2, h0, h1, refF]
  | m + 1, n, best, hn, hb => by
    refine WL_step e_ref04_Plan_l8 ?_
    have hw := h.w
    have hp := pow_w (W := W) (by omega)
    obtain ⟨q1, q2⟩ := two_w hW (by omega)
    have h0 : ¬ s.w < 0 := by omega
    have hM := fun σ (hσ : σ ≠ []) => @C_Members σ n (by omega) hσ
    have hP := fun σ => @C_Plans σ s h W hW n (by omega)
    have hB := fun σ => @C_before σ (memb n) best (by have := memb_len n; omega) (by omega)
    have w1 := w64 (n := (n : Int) + 1) (by omega)
    have e1 : refF W (decS s) (m + 1) n best = refF W (decS s) m (n + 1) (if bef (memb n) best && decS s (memb n) then memb n else best) := rfl
    rw [e1]
    have ih1 := L_PlanR h hW hσ m (n + 1) (memb n) (by omega) (memb_len n)
    have ih2 := L_PlanR h hW hσ m (n + 1) best (by omega) hb
    generalize 2 ^ W = P at *
    have h1 : n < P := by omega
    cases c1 : bef (memb n) best
    · rw [Bool.false_and, if_neg (by simp)]
      rw [c1] at hB
      simp [-List.length_flatMap, -List.map_take, e_ref04_Plan_r0, e_ref04_Plan_r1, e_ref04_Plan_r2, e_ref04_Plan_r3, e_ref04_Plan_r4, e_ref04_Plan_r5, e_ref04_Plan_r6, e_ref04_Plan_r7, e_ref04_Plan_r9, q1, q2, h0, h1, hM, hσ, hB, w1]
      exact WL.to ih2 (by simp) rfl fun x e σ' hh => hh
    rw [c1] at hB
    cases c2 : decS s (memb n)
    · rw [Bool.and_false, if_neg (by simp)]
      rw [c2] at hP
      simp [-List.length_flatMap, -List.map_take, e_ref04_Plan_r0, e_ref04_Plan_r1, e_ref04_Plan_r2, e_ref04_Plan_r3, e_ref04_Plan_r4, e_ref04_Plan_r5, e_ref04_Plan_r6, e_ref04_Plan_r7, e_ref04_Plan_r9, q1, q2, h0, h1, hM, hσ, hB, hP, w1]
      exact WL.to ih2 (by simp) rfl fun x e σ' hh => hh
    · rw [Bool.and_true, if_pos rfl]
      rw [c2] at hP
      simp [-List.length_flatMap, -List.map_take, e_ref04_Plan_r0, e_ref04_Plan_r1, e_ref04_Plan_r2, e_ref04_Plan_r3, e_ref04_Plan_r4, e_ref04_Plan_r5, e_ref04_Plan_r6, e_ref04_Plan_r7, e_ref04_Plan_r9, q1, q2, h0, h1, hM, hσ, hB, hP, w1]
      exact WL.to ih1 (by simp) rfl fun x e σ' hh => hh
theorem C_PlanR {s : Surv} (h : Sv s) : lim T (.call false i_ref04_Plan [.agg [.int .i64 s.w, .int .i64 s.lv, .lst s.l.length (s.l.flatMap Seen.enc)]] σ) = some (.val (.lst (planL s).length (nE (planL s))) σ) := by
  refine call_of T_ref04_Plan e_ref04_Plan rfl ?_
  have hw := h.w
  obtain ⟨W, hW⟩ : ∃ W : Nat, s.w = W := ⟨s.w.toNat, by omega⟩
  have e0 : s.w.toNat = W := by omega
  have hp := pow_w (W := W) (by omega)
  obtain ⟨q1, q2⟩ := two_w hW (by omega)
  have h0 : ¬ s.w < 0 := by omega
  have hpos : 0 < 2 ^ W := Nat.two_pow_pos W
  have hM := fun σ (hσ : σ ≠ []) => @C_Members σ (2 ^ W - 1) (by omega) hσ
  have w1 : IntKind.i64.wrap (((2 ^ W : Nat) : Int) - 1) = ((2 ^ W - 1 : Nat) : Int) := by
    rw [w64 (by omega)]
    omega
  have hL := L_PlanR (σ := [] :: σ) h hW (by simp) (2 ^ W) 0 (memb (2 ^ W - 1)) (by omega) (memb_len _)
  have hE : refF W (decS s) (2 ^ W) 0 (memb (2 ^ W - 1)) = planL s := by
    unfold planL
    rw [e0]
    refine (plans_same (by omega) ?_).symm
    have := @decS_full s
    rw [e0] at this
    exact this
  rw [hE] at hL
  generalize memb (2 ^ W - 1) = M at *
  generalize 2 ^ W - 1 = K at *
  generalize 2 ^ W = P at *
  simp [-List.length_flatMap, -List.map_take, e_ref04_Plan_r0, e_ref04_Plan_r1, e_ref04_Plan_r2, e_ref04_Plan_r3, e_ref04_Plan_r4, e_ref04_Plan_r5, e_ref04_Plan_r6, e_ref04_Plan_r7, e_ref04_Plan_r9, q1, q2, h0, w1, hM]
  refine WL.to hL (by simp) rfl ?_
  rintro x e σ' ⟨rfl, rfl, g3⟩
  simp [-List.length_flatMap, -List.map_take, e_ref04_Plan_r9, g3, nE_clean]
end Go.Proofs.Ytcjjdaifpboaaaa
