/-
  The relations of all wells, of the program.
-/
import Derived.Test.YtcjjdaifpboaaaaS5
set_option linter.unusedVariables false
set_option linter.unusedSimpArgs false
namespace Go.Proofs.Ytcjjdaifpboaaaa
open Go Go.Abs Go.Trial
variable {σ : Stack}

@[simp] def u8E (n : Int) : List D := [.int .u8 n]
def relR (s : Surv) (W a : Nat) : List Int := (List.range W).map (relOf s a)
def rowD (s : Surv) (W a : Nat) : D := .lst W ((relR s W a).flatMap u8E)
def relM (s : Surv) (W : Nat) : List D := (List.range W).map (rowD s W)
@[simp] theorem relR_len {s : Surv} {W a : Nat} : (relR s W a).length = W := by simp [relR]
theorem relR_succ {s : Surv} {n a : Nat} : (relR s (n + 1) a).flatMap u8E = (relR s n a).flatMap u8E ++ [.int .u8 (relOf s a n)] := by simp [relR, List.range_succ]
theorem u1_len {s : Surv} {n a : Nat} : ((relR s n a).flatMap u8E).length = n := by
  have := flat_len (f := u8E) (w := 1) (fun _ => rfl) (relR s n a)
  simpa using this
theorem L_row {s : Surv} (h : Sv s) {W : Nat} (hW : s.w = W) {a : Nat} (ha : a < W) {L : Nat} {S : Stack} {n : Int} : ∀ (m b : Nat), b + m = W →
    WL T [1, 4, 6, 7, 8, 19, 20, 24, 25] false f_trial_Relations_l14 [(1, .cref s.enc), (4, .own 0 (pv s (Gr s))), (6, .sl L 0 a 0 a 1), (7, .int .i64 a), (8, .sl S.length 0 b 0 b 1), (19, .int .i64 s.w), (20, .int .i64 n), (24, .int .i64 s.w), (25, .int .i64 b)] ([.cells b ((relR s b a).flatMap u8E)] :: S)
      (fun x e σ' => σ' = [.cells W ((relR s W a).flatMap u8E)] :: S ∧ x = .exit 2 ∧ get e 1 = .cref s.enc ∧ get e 4 = .own 0 (pv s (Gr s)) ∧ get e 6 = .sl L 0 a 0 a 1 ∧ get e 8 = .sl S.length 0 W 0 W 1 ∧ get e 19 = .int .i64 s.w ∧ get e 20 = .int .i64 n)
  | 0, b, hb => by
    refine WL_step e_trial_Relations_l14 ?_
    have h1 : ¬ (b : Int) < s.w := by omega
    have h2 : b = W := by omega
    subst h2
    simp [-List.length_flatMap, -List.map_take, e_trial_Relations_r0, e_trial_Relations_r1, e_trial_Relations_r2, e_trial_Relations_r3, e_trial_Relations_r4, e_trial_Relations_r5, e_trial_Relations_r6, e_trial_Relations_r7, e_trial_Relations_r8, e_trial_Relations_r9, e_trial_Relations_r10, e_trial_Relations_r11, e_trial_Relations_r12, e_trial_Relations_r13, e_trial_Relations_r15, e_trial_Relations_r16, e_trial_Relations_r18, h1]
  | m + 1, b, hb => by
    refine WL_step e_trial_Relations_l14 ?_
    have h1 : (b : Int) < s.w := by omega
    have hw := h.w
    have w1 := w64 (n := (b : Int) + 1) (by omega)
    have ih := L_row h hW ha (L := L) (S := S) (n := n) m (b + 1) (by omega)
    rw [relR_succ] at ih
    have hR := fun σ => @C_relation σ s h a b (by omega) (by omega)
    have t0 : (pv s (Gr s)).take 13 = pv s (Gr s) := List.take_of_length_le (by rw [pv_len]; exact Nat.le_refl _)
    have a3 := @pv_len s (Gr s)
    have u3 := @u1_len s b a
    have u4 : ((relR s b a).flatMap u8E).take b = (relR s b a).flatMap u8E := List.take_of_length_le (by rw [u3]; exact Nat.le_refl _)
    have h7 : b + 1 ≤ room := by unfold room; omega
    simp [-List.length_flatMap, -List.map_take, e_trial_Relations_r0, e_trial_Relations_r1, e_trial_Relations_r2, e_trial_Relations_r3, e_trial_Relations_r4, e_trial_Relations_r5, e_trial_Relations_r6, e_trial_Relations_r7, e_trial_Relations_r8, e_trial_Relations_r9, e_trial_Relations_r10, e_trial_Relations_r11, e_trial_Relations_r12, e_trial_Relations_r13, e_trial_Relations_r15, e_trial_Relations_r16, e_trial_Relations_r18, h1, w1, hR, t0, a3, u3, u4, h7]
    exact WL.to ih (by simp) (by simp) fun x e σ' hh => hh
theorem rel_succ {s : Surv} {W a : Nat} : (List.range (a + 1)).map (rowD s W) = (List.range a).map (rowD s W) ++ [rowD s W a] := by simp [List.range_succ]
theorem sl_clean {s : Surv} : D.cleanL (s.l.flatMap Seen.enc) = true := k_clean (fun x => by simp) _
theorem L_rel17 {s : Surv} (h : Sv s) {W : Nat} (hW : s.w = W) (hσ : σ ≠ []) : ∀ (m a : Nat), a + m = W →
    WL T [1, 4, 6, 19, 20] true f_trial_Relations_l17 [(1, .cref s.enc), (4, .own 0 (pv s (Gr s))), (6, .sl σ.length 0 a 0 a 1), (19, .int .i64 s.w), (20, .int .i64 a)] ([.cells a ((List.range a).map (rowD s W))] :: σ)
      (fun x e σ' => σ' = [.cells W (relM s W)] :: σ ∧ x = .exit 0 ∧ get e 6 = .sl σ.length 0 W 0 W 1)
  | 0, a, hb => by
    refine WL_stepS e_trial_Relations_l17 ?_
    have h1 : ¬ (a : Int) < s.w := by omega
    have h2 : a = W := by omega
    subst h2
    simp [-List.length_flatMap, -List.map_take, e_trial_Relations_r0, e_trial_Relations_r1, e_trial_Relations_r2, e_trial_Relations_r3, e_trial_Relations_r4, e_trial_Relations_r5, e_trial_Relations_r6, e_trial_Relations_r7, e_trial_Relations_r8, e_trial_Relations_r9, e_trial_Relations_r10, e_trial_Relations_r11, e_trial_Relations_r12, e_trial_Relations_r13, e_trial_Relations_r15, e_trial_Relations_r16, e_trial_Relations_r18, h1, pv_clean, sl_clean, relM]
  | m + 1, a, hb => by
    refine WL_stepS e_trial_Relations_l17 ?_
    have h1 : (a : Int) < s.w := by omega
    have hw := h.w
    have w1 := w64 (n := (a : Int) + 1) (by omega)
    have ih := L_rel17 h hW hσ m (a + 1) (by omega)
    rw [rel_succ] at ih
    simp [-List.length_flatMap, -List.map_take, e_trial_Relations_r0, e_trial_Relations_r1, e_trial_Relations_r2, e_trial_Relations_r3, e_trial_Relations_r4, e_trial_Relations_r5, e_trial_Relations_r6, e_trial_Relations_r7, e_trial_Relations_r8, e_trial_Relations_r9, e_trial_Relations_r10, e_trial_Relations_r11, e_trial_Relations_r12, e_trial_Relations_r13, e_trial_Relations_r15, e_trial_Relations_r16, e_trial_Relations_r18, h1]
    refine WL.to (L_row h hW (a := a) (by omega) (L := σ.length) (S := [.cells a ((List.range a).map (rowD s W))] :: σ) (n := (a : Int)) W 0 (by omega)) (by simp) (by simp [relR]) ?_
    rintro x e σ' ⟨rfl, rfl, g1, g4, g6, g8, g19, g20⟩
    have u4 : ((List.range a).map (rowD s W)).take a = (List.range a).map (rowD s W) := List.take_of_length_le (by simp)
    have h7 : (a + 1) * 24 ≤ room := by unfold room; omega
    simp only [Surv.enc] at g1
    generalize hM : (List.range a).map (rowD s W) = M at *
    have hl : M.length = a := by rw [← hM]; simp
    have z1 : frz σ.length 16 (.sl (σ.length + 1) 0 W 0 W 1) ([.cells W ((relR s W a).flatMap u8E)] :: [.cells a M] :: σ) = (.lst W ((relR s W a).flatMap u8E), [.dead] :: [.cells a M] :: σ) := by
      have := k_out (f := u8E) (w := 1) (fun _ => rfl) (fun x => by simp) (l := relR s W a) (j := 0) (v := W) (bs := [.cells W ((relR s W a).flatMap u8E)]) (σ := [.cells a M] :: σ) (by simp) rfl
      simpa using this
    have rc : D.cleanL ((relR s W a).flatMap u8E) = true := k_clean (fun x => by simp) _
    simp [-List.length_flatMap, -List.map_take, e_trial_Relations_r15, e_trial_Relations_r16, g1, g4, g6, g8, g19, g20, u4, h7, hl, w1, z1, pv_clean, sl_clean]
    exact WL.to ih (by simp) (by simp [rowD]) fun x e σ' hh => hh
def relD (s : Surv) : D := if sFault s = 0 then (if 0 ≤ clash s then .tup [.nils, .int .i64 9] else .tup [.lst s.w.toNat (relM s s.w.toNat), .int .i64 0]) else .tup [.nils, .int .i64 (sFault s)]
theorem rel_clean {s : Surv} {W n : Nat} : D.cleanL ((List.range n).map (rowD s W)) = true := by
  have key : ∀ l : List Nat, D.cleanL (l.map (rowD s W)) = true := by
    intro l
    induction l with
    | nil => rfl
    | cons a l ih =>
      have rc : D.cleanL ((relR s W a).flatMap u8E) = true := k_clean (fun x => by simp) _
      simp [rowD, D.cleanL, D.clean, rc, ih]
  exact key _
theorem C_Relations {s : Surv} (hl : s.l.length ≤ 100000) (hσ : σ ≠ []) : lim T (.call false i_trial_Relations [.agg [.int .i64 s.w, .int .i64 s.lv, .lst s.l.length (s.l.flatMap Seen.enc)]] σ) = some (.val (relD s) σ) := by
  refine call_of T_trial_Relations e_trial_Relations rfl ?_
  have hc := fun σ => @C_checked σ s hl
  simp only [checkedD] at hc
  by_cases h0 : sFault s = 0
  rotate_left
  · simp [-List.length_flatMap, -List.map_take, e_trial_Relations_r0, e_trial_Relations_r1, e_trial_Relations_r2, e_trial_Relations_r3, e_trial_Relations_r4, e_trial_Relations_r5, e_trial_Relations_r6, e_trial_Relations_r7, e_trial_Relations_r8, e_trial_Relations_r9, e_trial_Relations_r10, e_trial_Relations_r11, e_trial_Relations_r12, e_trial_Relations_r13, e_trial_Relations_r15, e_trial_Relations_r16, e_trial_Relations_r18, hc, h0, relD, z13]
  have h := sFault_sv h0
  by_cases h1 : 0 ≤ clash s
  · simp [-List.length_flatMap, -List.map_take, e_trial_Relations_r0, e_trial_Relations_r1, e_trial_Relations_r2, e_trial_Relations_r3, e_trial_Relations_r4, e_trial_Relations_r5, e_trial_Relations_r6, e_trial_Relations_r7, e_trial_Relations_r8, e_trial_Relations_r9, e_trial_Relations_r10, e_trial_Relations_r11, e_trial_Relations_r12, e_trial_Relations_r13, e_trial_Relations_r15, e_trial_Relations_r16, e_trial_Relations_r18, hc, h0, h1, relD, z13]
  have hw := h.w
  obtain ⟨W, hW⟩ : ∃ W : Nat, s.w = W := ⟨s.w.toNat, by omega⟩
  have e0 : s.w.toNat = W := by omega
  have t0 : (pv s (Gr s)).take 13 = pv s (Gr s) := List.take_of_length_le (by rw [pv_len]; exact Nat.le_refl _)
  have a3 := @pv_len s (Gr s)
  simp [-List.length_flatMap, -List.map_take, e_trial_Relations_r0, e_trial_Relations_r1, e_trial_Relations_r2, e_trial_Relations_r3, e_trial_Relations_r4, e_trial_Relations_r5, e_trial_Relations_r6, e_trial_Relations_r7, e_trial_Relations_r8, e_trial_Relations_r9, e_trial_Relations_r10, e_trial_Relations_r11, e_trial_Relations_r12, e_trial_Relations_r13, e_trial_Relations_r15, e_trial_Relations_r16, e_trial_Relations_r18, hc, h0, h1, t0, a3]
  refine WL.to (L_rel17 (σ := σ) h hW hσ W 0 (by omega)) (by simp) (by simp) ?_
  rintro x e σ' ⟨rfl, rfl, g6⟩
  simp [-List.length_flatMap, -List.map_take, e_trial_Relations_r18, g6, relD, h0, h1, e0]
  rw [frz_tup (by simp) (by omega)]
  have h3 : ¬ σ.length ≤ σ.length - 1 := by have := List.length_pos_iff.2 hσ; omega
  have h6 : (relM s W).take W = relM s W := List.take_of_length_le (by simp [relM])
  have h5 : D.cleanL (relM s W) = true := rel_clean
  simp only [frzL_cons, frzL_nil]
  rw [frz_sl h3 (cs := relM s W) (by simp) (by omega)]
  simp [h6, h5]
end Go.Proofs.Ytcjjdaifpboaaaa
