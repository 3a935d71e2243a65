/-
  The law LeaseFair answers true.
-/
import Derived.Test.YtcccafphhmcifaaP4
import Derived.Test.YtcccafphhmcifaaW
import Derived.Test.YtcccafphhmcifaaW2
import Derived.Test.YtcccafphhmcifaaTremTyK
set_option linter.unusedVariables false
set_option linter.unusedSimpArgs false
namespace Go.Proofs.Ytcccafphhmcifaa
open Go Go.Abs Go.Lease
variable {σ : Stack}

theorem u32_at {l : List Int} {i : Nat} {x : Int} (hx : l[i]? = some x) : ((l.flatMap u32E).drop i).take 1 = [.int .u32 x] := by
  have := flat_at (f := u32E) (w := 1) (fun _ => rfl) hx
  simpa using this
/-- Weights, without their last four bits. -/
def halfL (us : List Int) : List Int := us.map (· / 16)
theorem halfL_len {us : List Int} : (halfL us).length = us.length := by simp [halfL]
theorem halfL_bd {us : List Int} (hu : ∀ x ∈ us, 0 ≤ x ∧ x ≤ 4294967295) : ∀ x ∈ halfL us, 0 ≤ x ∧ x ≤ 268435455 := by
  intro x hx
  simp only [halfL, List.mem_map] at hx
  obtain ⟨y, hy, rfl⟩ := hx
  have := hu y hy
  omega
theorem L_Fair1 {us : List Int} (hn : us.length ≤ 8) (hu : ∀ x ∈ us, 0 ≤ x ∧ x ≤ 4294967295) {d0 : D} (s0 : d0.calm = d0) : ∀ (m i v : Nat), i + m = us.length →
    WL T [0, 1, 5, 6, 7] false f_law11_LeaseFair_l10 [(0, d0), (1, .lst us.length (us.flatMap u32E)), (5, .sl σ.length 0 v 0 i 1), (6, .int .i64 (sumI ((halfL us).take i))), (7, .int .i64 i)] ([.cells v (((halfL us).take i).flatMap intE)] :: σ)
      (fun x e σ' => x = .exit 0 ∧ get e 0 = d0 ∧ get e 5 = .sl σ.length 0 (v + m) 0 (halfL us).length 1 ∧ get e 6 = .int .i64 (sumI (halfL us)) ∧ σ' = [.cells (v + m) ((halfL us).flatMap intE)] :: σ)
  | 0, i, v, hi => by
    refine WL_step e_law11_LeaseFair_l10 ?_
    have h1 : ¬ i < us.length := by omega
    have h2 : (halfL us).take i = halfL us := List.take_of_length_le (by rw [halfL_len]; omega)
    have h3 : i = (halfL us).length := by rw [halfL_len]; omega
    rw [h2, h3]
    have h4 : ¬ (halfL us).length < us.length := by omega
    simp [-List.length_flatMap, -List.map_take, e_law11_LeaseFair_r0, e_law11_LeaseFair_r1, e_law11_LeaseFair_r2, e_law11_LeaseFair_r3, e_law11_LeaseFair_r4, e_law11_LeaseFair_r5, e_law11_LeaseFair_r6, e_law11_LeaseFair_r7, e_law11_LeaseFair_r8, e_law11_LeaseFair_r9, e_law11_LeaseFair_r11, e_law11_LeaseFair_r12, e_law11_LeaseFair_r13, e_law11_LeaseFair_r14, e_law11_LeaseFair_r15, e_law11_LeaseFair_r16, e_law11_LeaseFair_r17, e_law11_LeaseFair_r18, e_law11_LeaseFair_r19, e_law11_LeaseFair_r20, e_law11_LeaseFair_r21, e_law11_LeaseFair_r22, e_law11_LeaseFair_r23, e_law11_LeaseFair_r24, e_law11_LeaseFair_r25, e_law11_LeaseFair_r26, e_law11_LeaseFair_r28, h4, s0]
  | m + 1, i, v, hi => by
    refine WL_step e_law11_LeaseFair_l10 ?_
    have h1 : i < us.length := by omega
    obtain ⟨x, hx⟩ : ∃ x, us[i]? = some x := ⟨_, List.getElem?_eq_getElem h1⟩
    have hxb := hu x (List.mem_of_getElem? hx)
    have hg : (halfL us)[i]? = some (x / 16) := by simp [halfL, hx]
    have hb := sumI_bd (lo := 0) (hi := 268435455) (l := (halfL us).take i) fun y hy => halfL_bd hu y (List.mem_of_mem_take hy)
    have hl : ((halfL us).take i).length ≤ 8 := by simp [halfL_len]; omega
    have hs : sumI ((halfL us).take (i + 1)) = sumI ((halfL us).take i) + x / 16 := by rw [List.take_add_one, hg, sumI_app]; simp [sumI]
    have a1 := u32_at hx
    have a2 : x.fdiv 16 = x / 16 := Int.fdiv_eq_ediv_of_nonneg _ (by decide)
    have a3 := int_len ((halfL us).take i)
    have a4 : min i us.length = i := by omega
    rw [List.length_take, halfL_len, a4] at a3
    have a5 : (((halfL us).take i).flatMap intE).take i = ((halfL us).take i).flatMap intE := List.take_of_length_le (by omega)
    have a6 : (i + 1) * 8 ≤ room := by unfold room; omega
    have a7 := flat_snoc (f := intE) hg
    have w1 := wnext h1 (by omega)
    have w2 := w64 (n := x / 16) (by omega)
    have w3 := w64 (n := sumI ((halfL us).take i) + x / 16) (by omega)
    have bb : IntKind.u32.bits = 32 := rfl
    have ih := L_Fair1 hn hu s0 m (i + 1) (v + 1) (by omega)
    rw [← a7] at ih
    simp [-List.length_flatMap, -List.map_take, e_law11_LeaseFair_r0, e_law11_LeaseFair_r1, e_law11_LeaseFair_r2, e_law11_LeaseFair_r3, e_law11_LeaseFair_r4, e_law11_LeaseFair_r5, e_law11_LeaseFair_r6, e_law11_LeaseFair_r7, e_law11_LeaseFair_r8, e_law11_LeaseFair_r9, e_law11_LeaseFair_r11, e_law11_LeaseFair_r12, e_law11_LeaseFair_r13, e_law11_LeaseFair_r14, e_law11_LeaseFair_r15, e_law11_LeaseFair_r16, e_law11_LeaseFair_r17, e_law11_LeaseFair_r18, e_law11_LeaseFair_r19, e_law11_LeaseFair_r20, e_law11_LeaseFair_r21, e_law11_LeaseFair_r22, e_law11_LeaseFair_r23, e_law11_LeaseFair_r24, e_law11_LeaseFair_r25, e_law11_LeaseFair_r26, e_law11_LeaseFair_r28, h1, a1, a2, a3, a5, a6, w1, w2, w3, bb, s0]
    refine WL.to ih (by simp [hs]) (by simp) fun x e σ hh => by simpa [Nat.add_assoc, Nat.add_comm 1 m] using hh
theorem part_fair {a : Int} {ws : List Int} (h : WP a ws) {i : Nat} {w : Int} (hw : ws[i]? = some w) : ∃ l, (splitL a ws)[i]? = some l ∧ 0 ≤ l ∧ l ≤ a ∧ -sumI ws < l * sumI ws - a * w ∧ l * sumI ws - a * w < sumI ws := by
  have hwb := h.w w (List.mem_of_getElem? hw)
  have hq := splitQ_get (a := a) (W := sumI ws) hw
  have hnd : (rankS a ws).Nodup := by unfold rankS; exact (rankL_nodup _ _).sublist (List.take_sublist ..)
  have hg := incs_get (rankS a ws) (splitQ a (sumI ws) ws) i _ hnd hq
  have hdm := Int.mul_ediv_add_emod (a * w) (sumI ws)
  have hr := r_bd (A := a) (w := w) h.s0
  have hqb := q_bd h.s0 h.a0 hwb.1 hwb.2
  have haw : a * w ≤ a * sumI ws := Int.mul_le_mul_of_nonneg_left hwb.2 h.a0
  have hs0 := h.s0
  by_cases hi : i ∈ rankS a ws
  · rw [if_pos hi] at hg
    have hp := rank_pos h.s0 hi
    rw [key_at hw] at hp
    have e1 : (a * w / sumI ws + 1) * sumI ws = sumI ws * (a * w / sumI ws) + sumI ws := by rw [Int.add_mul, Int.one_mul, Int.mul_comm]
    refine ⟨_, hg, by omega, ?_, by omega, by omega⟩
    apply Classical.byContradiction
    intro hn
    have h2 : (a + 1) * sumI ws ≤ (a * w / sumI ws + 1) * sumI ws := Int.mul_le_mul_of_nonneg_right (by omega) (by omega)
    rw [Int.add_mul, Int.one_mul] at h2
    omega
  · rw [if_neg hi, Int.add_zero] at hg
    have e1 : a * w / sumI ws * sumI ws = sumI ws * (a * w / sumI ws) := Int.mul_comm ..
    exact ⟨_, hg, by omega, by omega, by omega, by omega⟩
theorem L_Fair2 {a : Int} {ws : List Int} (h : WP a ws) (ha : a ≤ 2147483647) (hW : sumI ws ≤ 2147483647) : ∀ (m i : Nat) (s : Int), i + m = ws.length → 0 ≤ s → s ≤ 2147483647 * i →
    WL T [5, 6, 8, 9, 11, 12] false f_law11_LeaseFair_l27 [(5, .lst ws.length (ws.flatMap intE)), (6, .int .i64 (sumI ws)), (8, .int .i64 a), (9, .lst ws.length ((splitL a ws).flatMap intE)), (11, .int .i64 s), (12, .int .i64 i)] σ
      (fun x e σ' => σ' = σ ∧ x = .exit 2 ∧ get e 8 = .int .i64 a ∧ get e 11 = .int .i64 (s + sumI ((splitL a ws).drop i)))
  | 0, i, s, hi, _, _ => by
    refine WL_step e_law11_LeaseFair_l27 ?_
    have h1 : ¬ i < ws.length := by omega
    have h2 : (splitL a ws).drop i = [] := List.drop_eq_nil_of_le (by rw [splitL_len]; omega)
    rw [h2]
    simp [-List.length_flatMap, -List.map_take, e_law11_LeaseFair_r0, e_law11_LeaseFair_r1, e_law11_LeaseFair_r2, e_law11_LeaseFair_r3, e_law11_LeaseFair_r4, e_law11_LeaseFair_r5, e_law11_LeaseFair_r6, e_law11_LeaseFair_r7, e_law11_LeaseFair_r8, e_law11_LeaseFair_r9, e_law11_LeaseFair_r11, e_law11_LeaseFair_r12, e_law11_LeaseFair_r13, e_law11_LeaseFair_r14, e_law11_LeaseFair_r15, e_law11_LeaseFair_r16, e_law11_LeaseFair_r17, e_law11_LeaseFair_r18, e_law11_LeaseFair_r19, e_law11_LeaseFair_r20, e_law11_LeaseFair_r21, e_law11_LeaseFair_r22, e_law11_LeaseFair_r23, e_law11_LeaseFair_r24, e_law11_LeaseFair_r25, e_law11_LeaseFair_r26, e_law11_LeaseFair_r28, h1, sumI]
  | m + 1, i, s, hi, s0, s1 => by
    refine WL_step e_law11_LeaseFair_l27 ?_
    have hn := h.n1
    have h1 : i < ws.length := by omega
    obtain ⟨w, hw⟩ : ∃ x, ws[i]? = some x := ⟨_, List.getElem?_eq_getElem h1⟩
    obtain ⟨l, hl, l0, l1, l2, l3⟩ := part_fair h hw
    have hwb := h.w w (List.mem_of_getElem? hw)
    have hs0 := h.s0
    have ha0 := h.a0
    have m1 : 0 ≤ l * sumI ws ∧ l * sumI ws ≤ 2147483647 * 2147483647 := ⟨Int.mul_nonneg l0 (by omega), Int.le_trans (Int.mul_le_mul_of_nonneg_right (by omega) (by omega)) (Int.mul_le_mul_of_nonneg_left hW (by decide))⟩
    have m2 : 0 ≤ a * w ∧ a * w ≤ 2147483647 * 2147483647 := ⟨Int.mul_nonneg ha0 hwb.1, Int.le_trans (Int.mul_le_mul_of_nonneg_right ha hwb.1) (Int.mul_le_mul_of_nonneg_left (by omega) (by decide))⟩
    have a1 := int_at hw
    have a2 := int_at hl
    have w1 := wnext h1 (by omega)
    have w2 := w64 (n := l * sumI ws) (by omega)
    have w3 := w64 (n := a * w) (by omega)
    have w4 := w64 (n := l * sumI ws - a * w) (by omega)
    have w5 := w64 (n := s + l) (by omega)
    have w6 := w64 (n := -sumI ws) (by omega)
    have w7 := w64 (n := 0 - sumI ws) (by omega)
    have c1 : ¬ l < 0 := by omega
    have c2 : ¬ a < l := by omega
    have c3 : ¬ l * sumI ws - a * w ≤ -sumI ws := by omega
    have c4 : ¬ sumI ws ≤ l * sumI ws - a * w := by omega
    have ih := L_Fair2 h ha hW m (i + 1) (s + l) (by omega) (by omega) (by omega)
    rw [dropS hl]
    simp [-List.length_flatMap, -List.map_take, e_law11_LeaseFair_r0, e_law11_LeaseFair_r1, e_law11_LeaseFair_r2, e_law11_LeaseFair_r3, e_law11_LeaseFair_r4, e_law11_LeaseFair_r5, e_law11_LeaseFair_r6, e_law11_LeaseFair_r7, e_law11_LeaseFair_r8, e_law11_LeaseFair_r9, e_law11_LeaseFair_r11, e_law11_LeaseFair_r12, e_law11_LeaseFair_r13, e_law11_LeaseFair_r14, e_law11_LeaseFair_r15, e_law11_LeaseFair_r16, e_law11_LeaseFair_r17, e_law11_LeaseFair_r18, e_law11_LeaseFair_r19, e_law11_LeaseFair_r20, e_law11_LeaseFair_r21, e_law11_LeaseFair_r22, e_law11_LeaseFair_r23, e_law11_LeaseFair_r24, e_law11_LeaseFair_r25, e_law11_LeaseFair_r26, e_law11_LeaseFair_r28, h1, a1, a2, w1, w2, w3, w4, w5, w6, w7, c1, c2, c3, c4]
    exact WL.to ih (by simp) rfl fun x e σ hh => by simpa [sumI, Int.add_assoc] using hh
theorem law_Fair {u : Int} (hu0 : 0 ≤ u ∧ u ≤ 4294967295) {us : List Int} (hu : ∀ x ∈ us, 0 ≤ x ∧ x ≤ 4294967295) : lim T (.call false i_law11_LeaseFair [.int .u32 u, .lst us.length (us.flatMap u32E)] [[]]) = some (.val (.bool true) [[]]) := by
  refine call_of T_law11_LeaseFair e_law11_LeaseFair rfl ?_
  by_cases h0 : us.length < 1
  · have h1 : (us.length : Int) < 1 := by omega
    simp [-List.length_flatMap, -List.map_take, e_law11_LeaseFair_r0, e_law11_LeaseFair_r1, e_law11_LeaseFair_r2, e_law11_LeaseFair_r3, e_law11_LeaseFair_r4, e_law11_LeaseFair_r5, e_law11_LeaseFair_r6, e_law11_LeaseFair_r7, e_law11_LeaseFair_r8, e_law11_LeaseFair_r9, e_law11_LeaseFair_r11, e_law11_LeaseFair_r12, e_law11_LeaseFair_r13, e_law11_LeaseFair_r14, e_law11_LeaseFair_r15, e_law11_LeaseFair_r16, e_law11_LeaseFair_r17, e_law11_LeaseFair_r18, e_law11_LeaseFair_r19, e_law11_LeaseFair_r20, e_law11_LeaseFair_r21, e_law11_LeaseFair_r22, e_law11_LeaseFair_r23, e_law11_LeaseFair_r24, e_law11_LeaseFair_r25, e_law11_LeaseFair_r26, e_law11_LeaseFair_r28, h1, C_wakes]
  have h0' : ¬ (us.length : Int) < 1 := by omega
  by_cases hb : us.length ≤ 8
  rotate_left
  · have h1 : (8 : Int) < us.length := by omega
    simp [-List.length_flatMap, -List.map_take, e_law11_LeaseFair_r0, e_law11_LeaseFair_r1, e_law11_LeaseFair_r2, e_law11_LeaseFair_r3, e_law11_LeaseFair_r4, e_law11_LeaseFair_r5, e_law11_LeaseFair_r6, e_law11_LeaseFair_r7, e_law11_LeaseFair_r8, e_law11_LeaseFair_r9, e_law11_LeaseFair_r11, e_law11_LeaseFair_r12, e_law11_LeaseFair_r13, e_law11_LeaseFair_r14, e_law11_LeaseFair_r15, e_law11_LeaseFair_r16, e_law11_LeaseFair_r17, e_law11_LeaseFair_r18, e_law11_LeaseFair_r19, e_law11_LeaseFair_r20, e_law11_LeaseFair_r21, e_law11_LeaseFair_r22, e_law11_LeaseFair_r23, e_law11_LeaseFair_r24, e_law11_LeaseFair_r25, e_law11_LeaseFair_r26, e_law11_LeaseFair_r28, h0', h1, C_wakes]
  have h1 : ¬ (8 : Int) < us.length := by omega
  simp [-List.length_flatMap, -List.map_take, e_law11_LeaseFair_r0, e_law11_LeaseFair_r1, e_law11_LeaseFair_r2, e_law11_LeaseFair_r3, e_law11_LeaseFair_r4, e_law11_LeaseFair_r5, e_law11_LeaseFair_r6, e_law11_LeaseFair_r7, e_law11_LeaseFair_r8, e_law11_LeaseFair_r9, e_law11_LeaseFair_r11, e_law11_LeaseFair_r12, e_law11_LeaseFair_r13, e_law11_LeaseFair_r14, e_law11_LeaseFair_r15, e_law11_LeaseFair_r16, e_law11_LeaseFair_r17, e_law11_LeaseFair_r18, e_law11_LeaseFair_r19, e_law11_LeaseFair_r20, e_law11_LeaseFair_r21, e_law11_LeaseFair_r22, e_law11_LeaseFair_r23, e_law11_LeaseFair_r24, e_law11_LeaseFair_r25, e_law11_LeaseFair_r26, e_law11_LeaseFair_r28, h0', h1]
  refine WL.to (L_Fair1 (σ := [[]]) hb hu (d0 := .int .u32 u) rfl us.length 0 0 (by omega)) (by simp [sumI]) (by simp) ?_
  rintro x e σ' ⟨rfl, g0, g5, g6, rfl⟩
  have hwb := halfL_bd hu
  have hwl := halfL_len (us := us)
  generalize halfL us = ws at *
  have hz := k_frz (f := intE) (w := 1) (fun _ => rfl) (fun x => by simp) (l := ws) (j := 0) (v := us.length) (bs := [.cells us.length (ws.flatMap intE)]) (σ := [[]]) (by simp) rfl
  simp only [List.length_cons, List.length_nil, Nat.zero_add] at hz g5
  have a2 : u.fdiv 2 = u / 2 := Int.fdiv_eq_ediv_of_nonneg _ (by decide)
  have w1 := w64 (n := u / 2) (by omega)
  have bb : IntKind.u32.bits = 32 := rfl
  have hl := fun σ (hσ : σ ≠ []) => C_list (σ := σ) (l := ws) (by omega) hσ
  have hS := fun σ (hσ : σ ≠ []) => C_Split (σ := σ) (a := u / 2) (ws := ws) (by omega) hσ
  have hs := sumI_bd (lo := 0) (hi := 268435455) hwb
  have c1 : inn (u / 2) 0 1000000000000 = true := inn_iff.2 (by omega)
  unfold splD at hS
  by_cases hs0 : sumI ws = 0
  · have c2 : wsOk ws = false := by
      cases c : wsOk ws
      · rfl
      · have := wsOk_iff.1 c; omega
    simp only [c1, c2, Bool.false_eq_true, if_false, if_true] at hS
    simp [-List.length_flatMap, -List.map_take, e_law11_LeaseFair_r11, e_law11_LeaseFair_r12, e_law11_LeaseFair_r13, e_law11_LeaseFair_r14, g0, g5, g6, hz, a2, w1, bb, hl, hS, hs0, C_wakesD]
  have c2 : wsOk ws = true := wsOk_iff.2 ⟨by omega, fun x hx => by have := hwb x hx; omega, by omega⟩
  have hw := wp_of (inn_iff.1 c1) c2
  simp only [c1, c2, if_true] at hS
  simp [-List.length_flatMap, -List.map_take, e_law11_LeaseFair_r11, e_law11_LeaseFair_r12, e_law11_LeaseFair_r13, e_law11_LeaseFair_r15, e_law11_LeaseFair_r17, e_law11_LeaseFair_r18, g0, g5, g6, hz, a2, w1, bb, hl, hS, hs0]
  refine WL.to (L_Fair2 (σ := [[.dead], []]) hw (by omega) (by omega) ws.length 0 0 (by omega) (by omega) (by omega)) (by simp) rfl ?_
  rintro x e σ' ⟨rfl, rfl, g8, g11⟩
  rw [List.drop_zero, Int.zero_add] at g11
  have hsum : sumI (splitL (u / 2) ws) = u / 2 := by
    unfold splitL
    rw [sum_incs _ _ fun i hi => by rw [splitQ_len]; exact rankS_lt hi, rankS_len hw.s0]
    unfold restI
    omega
  simp [-List.length_flatMap, -List.map_take, e_law11_LeaseFair_r28, g8, g11, hsum, C_wakesD]
theorem rows_u32 {ds : List D} (h : (Ty.int .u32).has ds) : ∃ x : Int, ds = u32E x ∧ (0 ≤ x ∧ x ≤ 4294967295) := by
  obtain ⟨n, rfl, hw⟩ := h
  exact ⟨n, rfl, wf_u32 hw⟩
theorem go_LeaseFair (x0 x1 : D) (t0 : (Ty.int .u32).hasV x0) (t1 : (Ty.slice 1 (.int .u32)).hasV x1) :
    ∃ σ', lim T (.call false i_law11_LeaseFair [x0, x1] [[]]) = some (.val (.bool true) σ') := by
  obtain ⟨u, rfl, hu⟩ := u32_of t0
  obtain ⟨us, rfl, _, hus⟩ := rows_of (fun ds h => rows_u32 h) t1
  exact ⟨_, law_Fair hu hus⟩
end Go.Proofs.Ytcccafphhmcifaa
