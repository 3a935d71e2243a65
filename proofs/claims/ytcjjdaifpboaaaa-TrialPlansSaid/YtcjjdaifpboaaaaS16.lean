/-
  Groups as a list; divisions by digits; the survey behind a pulse is valid, and the division fits it.
-/
import Derived.Test.YtcjjdaifpboaaaaS14
import Derived.Test.YtcjjdaifpboaaaaPulsedPlain
set_option linter.unusedVariables false
set_option linter.unusedSimpArgs false
namespace Go.Proofs.Ytcjjdaifpboaaaa
open Go Go.Abs Go.Trial
variable {σ : Stack}

theorem C_cloneI {n : Nat} {F : List Blk} {cs : List D} (hF : F[0]? = some (.cells 0 cs)) (hc : n + 1 + 3 ≤ cs.length) (hn : n ≤ 100) (hcl : D.cleanL ((cs.drop 3).take (n + 1)) = true) :
    lim T (.call false i_slices_Clone_int [.sl σ.length 0 0 3 (n + 1) 1] (F :: σ)) = some (.val (.lst (n + 1) ((cs.drop 3).take (n + 1))) (F :: σ)) := by
  refine call_of T_slices_Clone_int e_slices_Clone_int rfl ?_
  have h7 : (n + 1) * 8 ≤ room := by unfold room; omega
  have h8 : 3 + (n + 1) ≤ cs.length := by omega
  simp [-List.length_flatMap, -List.map_take, e_slices_Clone_int_r0, e_slices_Clone_int_r1, e_slices_Clone_int_r2, e_slices_Clone_int_r3, hF, h7, h8]
  have h9 : ((cs.drop 3).take (n + 1)).take ((n + 1) * 1) = (cs.drop 3).take (n + 1) := List.take_of_length_le (by simp; omega)
  rw [frz_sl (by omega) (cs := (cs.drop 3).take (n + 1)) (by simp) (by omega)]
  simp only [List.drop_zero, h9]
  simp [hcl]
theorem gI_take {g : Lab} {W : Nat} (hW : W ≤ 10) : ((gI 10 g).flatMap intE).take W = (gI W g).flatMap intE := by
  have h1 : (gI 10 g).take W = gI W g := by
    unfold gI
    rw [← List.map_take, List.take_range, Nat.min_eq_left hW]
  have h2 : gI 10 g = gI W g ++ (gI 10 g).drop W := by rw [← h1, List.take_append_drop]
  rw [h2, List.flatMap_append, List.take_left' g1_len]
theorem u64n {n : Nat} (h : n < 18446744073709551616) : IntKind.u64.wrap (n : Int) = n := by
  unfold IntKind.wrap
  simp [IntKind.signed, IntKind.bits]
  omega
theorem C_GroupsP {s : Surv} {q : D} (hq : q.blur = .lst s.l.length (s.l.flatMap Seen.enc)) (hl : s.l.length ≤ 100000) (h0 : sFault s = 0) {W : Nat} (hW : s.w = W) (hσ : σ ≠ []) :
    lim T (.call false i_trial_Groups [.agg [.int .i64 s.w, .int .i64 s.lv, q]] σ) = some (.val (.tup [.lst W ((gI W (Gr s)).flatMap intE), .int .i64 0]) σ) := by
  refine call_of T_trial_Groups e_trial_Groups rfl ?_
  have hf := fun σ => @C_checkS σ s (.lst s.l.length (s.l.flatMap Seen.enc)) rfl hl
  have h := sFault_sv h0
  have hw := h.w
  have hg := fun σ => @C_groups σ s (.lst s.l.length (s.l.flatMap Seen.enc)) rfl h
  have a3 := @pv_len s (Gr s)
  have t0 : (pv s (Gr s)).take 13 = pv s (Gr s) := List.take_of_length_le (by rw [pv_len]; exact Nat.le_refl _)
  obtain ⟨n, rfl⟩ : ∃ n, W = n + 1 := ⟨W - 1, by omega⟩
  have e0 : s.w.toNat = n + 1 := by omega
  have e1 : 0 ≤ s.w := by omega
  have e2 : s.w ≤ 10 := by omega
  have e3 : ((pv s (Gr s)).drop 3).take (n + 1) = (gI (n + 1) (Gr s)).flatMap intE := gI_take (by omega)
  have hcl : D.cleanL ((gI (n + 1) (Gr s)).flatMap intE) = true := k_clean (fun x => by simp) _
  have hc := C_cloneI (σ := σ) (n := n) (F := [.cells 0 (pv s (Gr s))]) (cs := pv s (Gr s)) rfl (by rw [a3]; omega) (by omega) (by rw [e3]; exact hcl)
  rw [e3] at hc
  simp [-List.length_flatMap, -List.map_take, e_trial_Groups_r0, e_trial_Groups_r1, e_trial_Groups_r2, e_trial_Groups_r3, e_trial_Groups_r4, e_trial_Groups_r5, hq, hf, h0, hg, a3, t0, e0, e1, e2, hc, hcl]
/-- Digits of a number. -/
def dvF : Nat → Nat → List Int
  | 0, _ => []
  | m + 1, by' => ((by' % 4 : Nat) : Int) :: dvF m (by' / 4)
theorem dv_len : ∀ (m b : Nat), (dvF m b).length = m
  | 0, _ => rfl
  | m + 1, b => by simp [dvF, dv_len m]
theorem L_dv {w : Int} {W : Nat} (hW : w = W) (hWl : W ≤ 10) : ∀ (m i b : Nat) (acc : List Int), i + m = W → acc.length = i → b < 18446744073709551616 →
    WL T [0, 1, 5, 6] false f_law04_divided_l7 [(0, .int .i64 w), (1, .int .u64 b), (5, .sl σ.length 0 i 0 i 1), (6, .int .i64 i)] ([.cells i (acc.flatMap intE)] :: σ)
      (fun x e σ' => σ' = [.cells W ((acc ++ dvF m b).flatMap intE)] :: σ ∧ x = .exit 0 ∧ get e 5 = .sl σ.length 0 W 0 W 1)
  | 0, i, b, acc, hi, ha, hb => by
    refine WL_step e_law04_divided_l7 ?_
    have h1 : ¬ (i : Int) < w := by omega
    have h2 : i = W := by omega
    subst h2
    simp [-List.length_flatMap, -List.map_take, e_law04_divided_r0, e_law04_divided_r1, e_law04_divided_r2, e_law04_divided_r3, e_law04_divided_r4, e_law04_divided_r5, e_law04_divided_r6, e_law04_divided_r8, h1, dvF]
  | m + 1, i, b, acc, hi, ha, hb => by
    refine WL_step e_law04_divided_l7 ?_
    have h1 : (i : Int) < w := by omega
    have w1 := w64 (n := (i : Int) + 1) (by omega)
    have ih := L_dv hW hWl m (i + 1) (b / 4) (acc ++ [((b % 4 : Nat) : Int)]) (by omega) (by simp; omega) (by omega)
    have q1 : (b : Int).tmod 4 = ((b % 4 : Nat) : Int) := by rw [Int.tmod_eq_emod_of_nonneg (by omega)]; omega
    have q2 : IntKind.u64.wrap ((b : Int).tdiv 4) = ((b / 4 : Nat) : Int) := by
      rw [Int.tdiv_eq_ediv_of_nonneg (by omega)]
      have e : (b : Int) / 4 = ((b / 4 : Nat) : Int) := by omega
      rw [e]
      exact u64n (by omega)
    have q4 : IntKind.u64.wrap ((b : Int) / 4) = ((b / 4 : Nat) : Int) := by
      have e : (b : Int) / 4 = ((b / 4 : Nat) : Int) := by omega
      rw [e]
      exact u64n (by omega)
    have q3 : IntKind.i64.wrap ((b % 4 : Nat) : Int) = ((b % 4 : Nat) : Int) := w64 (by omega)
    have h5 := flat_len (f := intE) (w := 1) (fun _ => rfl) acc
    have h6 := k_self (f := intE) (w := 1) (fun _ => rfl) acc
    rw [ha] at h5 h6
    simp only [Nat.mul_one] at h5 h6
    have h7 : (i + 1) * 8 ≤ room := by unfold room; omega
    have e1 : (acc ++ [((b % 4 : Nat) : Int)]).flatMap intE = acc.flatMap intE ++ [.int .i64 ((b % 4 : Nat) : Int)] := by simp
    have e2 : (acc ++ [((b % 4 : Nat) : Int)]) ++ dvF m (b / 4) = acc ++ dvF (m + 1) b := by simp [dvF]
    rw [e1, e2] at ih
    generalize b % 4 = M at *
    generalize b / 4 = B at *
    simp [-List.length_flatMap, -List.map_take, e_law04_divided_r0, e_law04_divided_r1, e_law04_divided_r2, e_law04_divided_r3, e_law04_divided_r4, e_law04_divided_r5, e_law04_divided_r6, e_law04_divided_r8, h1, w1, q1, q2, q3, q4, h5, h6, h7]
    refine WL.to ih (by simp) (by simp) ?_
    exact fun x e σ' hh => hh
theorem C_divided {w : Int} {W : Nat} (hW : w = W) (hWl : W ≤ 10) {b : Nat} (hb : b < 18446744073709551616) (hσ : σ ≠ []) : lim T (.call false i_law04_divided [.int .i64 w, .int .u64 b] σ) = some (.val (.lst W ((dvF W b).flatMap intE)) σ) := by
  refine call_of T_law04_divided e_law04_divided rfl ?_
  simp [-List.length_flatMap, -List.map_take, e_law04_divided_r0, e_law04_divided_r1, e_law04_divided_r2, e_law04_divided_r3, e_law04_divided_r4, e_law04_divided_r5, e_law04_divided_r6, e_law04_divided_r8]
  refine WL.to (L_dv (σ := σ) hW hWl W 0 b [] (by omega) rfl hb) (by simp) (by simp) ?_
  rintro x e σ' ⟨rfl, rfl, g5⟩
  simp [-List.length_flatMap, -List.map_take, e_law04_divided_r8, g5]
  have := k_out (f := intE) (w := 1) (fun _ => rfl) (fun x => by simp) (l := dvF W b) (j := 0) (v := W) (bs := [.cells W ((dvF W b).flatMap intE)]) hσ rfl
  rw [dv_len] at this
  rw [this]
  simp

/-! ### What a pulse makes -/

def pF (ps : List Int) : Nat → Int := fun z => (ps[z]?).getD 0
theorem pAt_eq (ps : List Int) (i : Int) : pAt ps i = pF ps i.toNat := rfl
theorem fit_iff {s : Surv} {ps : List Int} : allB s.l (fitOk s ps) = true ↔ Fit s (pF ps) := by
  rw [allB_iff]
  unfold Fit fitOk
  constructor
  · intro h x hx
    have := h x hx
    rw [pAt_eq, pAt_eq] at this
    constructor
    · intro hs
      apply Classical.byContradiction
      intro hne
      rw [hs, decide_eq_false hne] at this
      simp at this
    · intro ha he
      rw [ha, decide_eq_true he] at this
      simp at this
  · intro h x hx
    obtain ⟨h1, h2⟩ := h x hx
    rw [pAt_eq, pAt_eq]
    by_cases he : pF ps x.f.toNat = pF ps x.t.toNat
    · have h4 : agin s x = false := by
        cases h4 : agin s x
        · rfl
        · exact absurd he (h2 h4)
      rw [decide_eq_true he, h4]
      simp
    · have h3 : sure s x = false := by
        cases h3 : sure s x
        · rfl
        · exact absurd (h1 h3) he
      rw [decide_eq_false he, h3]
      simp
theorem sv_fault {s : Surv} (h : Sv s) : sFault s = 0 := by
  unfold sFault
  have hn := h.n
  rw [if_neg (by omega), if_pos (by rw [Bool.and_eq_true, inn_iff, inn_iff]; exact ⟨h.w, h.lv⟩), if_pos]
  rw [allB_iff]
  intro x hx
  have := h.l x hx
  simp only [seenOk, Bool.and_eq_true, inn_iff, Bool.not_eq_true', decide_eq_false_iff_not, Rg.drops, Rg.right, decide_eq_true_eq]
  exact ⟨⟨by omega, by omega⟩, ⟨by omega, by omega⟩, by omega, by omega, by omega, by omega⟩
theorem pulF_some {s : Surv} (hlv : -2000000000 < s.lv) {ps : List Int} {K : Nat} : ∀ (m w : Nat), ∃ l, pulF s ps K m w = some l ∧ l.length ≤ m ∧ (∀ x ∈ l, ∃ v, w ≤ v ∧ v < w + m ∧ v ≠ K ∧ x = pulS s ps K v) ∧
    ∀ v, w ≤ v → v < w + m → v ≠ K → pulS s ps K v ∈ l
  | 0, w => ⟨[], rfl, by simp, by simp, fun v h1 h2 => by omega⟩
  | m + 1, w => by
    obtain ⟨l, h1, h2, h3, h4⟩ := pulF_some hlv (ps := ps) (K := K) m (w + 1)
    have hat : ¬ atOf s ps K w < -2000000000 := by unfold atOf; split <;> omega
    by_cases hw : w = K
    · refine ⟨l, by simp only [pulF]; rw [if_pos hw]; exact h1, by omega, fun x hx => ?_, fun v h5 h6 h7 => h4 v (by omega) (by omega) h7⟩
      obtain ⟨v, a, b, c, d⟩ := h3 x hx
      exact ⟨v, by omega, by omega, c, d⟩
    · refine ⟨pulS s ps K w :: l, by simp only [pulF]; rw [if_neg hw, if_neg hat, h1]; rfl, by simp; omega, fun x hx => ?_, fun v h5 h6 h7 => ?_⟩
      · rcases List.mem_cons.1 hx with rfl | hx
        · exact ⟨w, Nat.le_refl _, by omega, hw, rfl⟩
        · obtain ⟨v, a, b, c, d⟩ := h3 x hx
          exact ⟨v, by omega, by omega, c, d⟩
      · by_cases e : v = w
        · subst e; exact List.mem_cons_self
        · exact List.mem_cons_of_mem _ (h4 v (by omega) (by omega) h7)
/-- The survey behind a pulse with a division that fits. -/
structure Pulsed (s s' : Surv) (ps : List Int) (K : Nat) : Prop where
  more : More s s'
  sv : Sv s'
  fit : Fit s' (pF ps)
  known : ∀ a, a < s.w.toNat → relOf s' K a ≠ 1
theorem pulsed_of {s : Surv} (h : Sv s) (hlv : -2000000000 < s.lv) (h50 : s.l.length ≤ 50) {ps : List Int} {W K : Nat} (hW : s.w = W) (hp : ps.length = W) (hK : K < W) (hf : Fit s (pF ps)) :
    ∃ s', pulR s K ps = (0, some s') ∧ s'.w = s.w ∧ s'.lv = s.lv ∧ Pulsed s s' ps K := by
  obtain ⟨l, h1, h2, h3, h4⟩ := pulF_some hlv (ps := ps) (K := K) ps.length 0
  have hw := h.w
  have hv := h.lv
  have c1 : inn (K : Int) 0 (s.w - 1) = true := inn_iff.2 ⟨by omega, by omega⟩
  have c2 : decide ((ps.length : Int) = s.w) = true := decide_eq_true (by omega)
  have c3 := fit_iff.2 hf
  have hat : ∀ v, -2000000000 ≤ atOf s ps K v ∧ atOf s ps K v ≤ 2000000000 := fun v => by unfold atOf; split <;> omega
  refine ⟨⟨s.w, s.lv, s.l ++ l⟩, ?_, rfl, rfl, ?_⟩
  · unfold pulR
    rw [c1, c2]
    simp only [Bool.and_self, if_true, Int.toNat_natCast, h1, c3]
    rw [if_neg (by omega)]
  have hm : More s ⟨s.w, s.lv, s.l ++ l⟩ := ⟨rfl, rfl, fun x hx => List.mem_append_left _ hx⟩
  have hsv : Sv ⟨s.w, s.lv, s.l ++ l⟩ := by
    refine ⟨by simp; omega, hw, hv, fun x hx => ?_⟩
    rcases List.mem_append.1 hx with hx | hx
    · exact h.l x hx
    · obtain ⟨v, a, b, c, rfl⟩ := h3 x hx
      have := hat v
      simp only [pulS]
      exact ⟨⟨by omega, by omega⟩, ⟨by omega, by omega⟩, by omega, by omega, by omega, by omega⟩
  have hfit : Fit ⟨s.w, s.lv, s.l ++ l⟩ (pF ps) := by
    intro x hx
    rcases List.mem_append.1 hx with hx | hx
    · exact hf x hx
    · obtain ⟨v, a, b, c, rfl⟩ := h3 x hx
      have e1 : pAt ps (v : Int) = pF ps v := rfl
      have e2 : pAt ps (K : Int) = pF ps K := rfl
      by_cases he : pF ps v = pF ps K
      · have e3 : atOf s ps K v = s.lv := by unfold atOf; rw [e1, e2, if_pos he]
        simp only [pulS, sure, agin, e3, Int.toNat_natCast, decide_eq_true_eq]
        exact ⟨fun _ => he.symm, fun hh => by omega⟩
      · have e3 : atOf s ps K v = s.lv - 1 := by unfold atOf; rw [e1, e2, if_neg he]
        simp only [pulS, sure, agin, e3, Int.toNat_natCast, decide_eq_true_eq]
        exact ⟨fun hh => by omega, fun _ hh => he hh.symm⟩
  refine ⟨hm, hsv, hfit, fun a ha => known_rel hsv fun hne => ?_⟩
  refine ⟨pulS s ps K a, List.mem_append_right _ (h4 a (by omega) (by omega) (fun e => hne e.symm)), by simp [pulS], by simp [pulS], ?_⟩
  have e1 : pAt ps (a : Int) = pF ps a := rfl
  have e2 : pAt ps (K : Int) = pF ps K := rfl
  by_cases he : pF ps a = pF ps K
  · have e3 : atOf s ps K a = s.lv := by unfold atOf; rw [e1, e2, if_pos he]
    left
    simp only [pulS, sure, e3, decide_eq_true_eq]
    omega
  · have e3 : atOf s ps K a = s.lv - 1 := by unfold atOf; rw [e1, e2, if_neg he]
    right
    simp only [pulS, agin, e3, decide_eq_true_eq]
    omega
end Go.Proofs.Ytcjjdaifpboaaaa
