/-
  Steps and ways, of the reference.
-/
import Derived.Test.YtcjjdaifpboaaaaB1
set_option linter.unusedVariables false
set_option linter.unusedSimpArgs false
namespace Go.Proofs.Ytcjjdaifpboaaaa
open Go Go.Abs Go.Trial
variable {σ : Stack}

theorem iN_get {l : List Nat} {i x : Nat} (h : l[i]? = some x) : (iN l)[i]? = some (x : Int) := by simp [iN, h]
@[simp] theorem iN_length {l : List Nat} : (iN l).length = l.length := by simp [iN]
theorem iN_at {l : List Nat} {i x : Nat} (h : l[i]? = some x) : ((iN l).flatMap intE).drop i = .int .i64 x :: ((iN l).flatMap intE).drop (i + 1) := by
  have := k_drop (f := intE) (w := 1) (fun _ => rfl) (iN_get h)
  simpa using this
theorem iN_len {l : List Nat} : ((iN l).flatMap intE).length = l.length := by
  have := flat_len (f := intE) (w := 1) (fun _ => rfl) (iN l)
  simpa using this
theorem iN_set {l : List Nat} {i x : Nat} (h : i < l.length) : ((iN l).flatMap intE).take i ++ .int .i64 (x : Int) :: ((iN l).flatMap intE).drop (i + 1) = (iN (l.set i x)).flatMap intE := by
  have := set1 (l := iN l) (i := i) (x := (x : Int)) (by simpa using h)
  rw [this]
  congr 1
  unfold iN
  rw [List.map_set]
theorem iN_snoc {l : List Nat} {x : Nat} : (iN (l ++ [x])).flatMap intE = (iN l).flatMap intE ++ [.int .i64 x] := by simp [iN]
theorem iN_all {l : List Nat} : ((iN l).flatMap intE).take l.length = (iN l).flatMap intE := List.take_of_length_le (by rw [iN_len]; exact Nat.le_refl _)

/-- Rounds over all pairs, as they go. -/
def rlxB (ad : Nat → Nat → Bool) (a : Nat) : Nat → Nat → List Nat → List Nat
  | 0, _, F => F
  | m + 1, b, F => rlxB ad a m (b + 1) (rlx ad F (a, b))
def rlxA (ad : Nat → Nat → Bool) (W : Nat) : Nat → Nat → List Nat → List Nat
  | 0, _, F => F
  | m + 1, a, F => rlxA ad W m (a + 1) (rlxB ad a W 0 F)
theorem rlxB_eq {ad : Nat → Nat → Bool} {a : Nat} : ∀ (m b : Nat) (F : List Nat), rlxB ad a m b F = ((List.range' b m).map fun b => (a, b)).foldl (rlx ad) F
  | 0, b, F => rfl
  | m + 1, b, F => by rw [rlxB, rlxB_eq m]; rfl
theorem rlxA_eq {ad : Nat → Nat → Bool} {W : Nat} : ∀ (m a : Nat) (F : List Nat), rlxA ad W m a F = ((List.range' a m).flatMap fun a => (List.range' 0 W).map fun b => (a, b)).foldl (rlx ad) F
  | 0, a, F => rfl
  | m + 1, a, F => by rw [rlxA, rlxA_eq m, rlxB_eq, List.range'_succ, List.flatMap_cons, List.foldl_append]
theorem rlxR_eq {ad : Nat → Nat → Bool} {W : Nat} {F : List Nat} : rlxR ad W F = rlxA ad W W 0 F := by rw [rlxA_eq]; rfl
theorem rlxB_inv {ad : Nat → Nat → Bool} {W to a : Nat} (ha : a < W) : ∀ (m b : Nat) (F : List Nat), b + m ≤ W → RInv ad W to F → RInv ad W to (rlxB ad a m b F)
  | 0, b, F, _, h => h
  | m + 1, b, F, hb, h => rlxB_inv ha m (b + 1) _ (by omega) (rlx_inv h ⟨ha, by dsimp only; omega⟩).1
theorem rlxA_inv {ad : Nat → Nat → Bool} {W to : Nat} : ∀ (m a : Nat) (F : List Nat), a + m ≤ W → RInv ad W to F → RInv ad W to (rlxA ad W m a F)
  | 0, a, F, _, h => h
  | m + 1, a, F, ha, h => rlxA_inv m (a + 1) _ (by omega) (rlxB_inv (by omega) W 0 F (by omega) h)
theorem rlxR_inv {ad : Nat → Nat → Bool} {W to : Nat} {F : List Nat} (h : RInv ad W to F) : RInv ad W to (rlxR ad W F) := by rw [rlxR_eq]; exact rlxA_inv W 0 F (by omega) h

theorem L_f2 {s : Surv} (h : Sv s) {W : Nat} (hW : s.w = W) {to a n v : Nat} (ha : a < W) : ∀ (m b : Nat) (F : List Nat), b + m = W → RInv (adj s) W to F →
    WL T [2, 5, 7, 8, 9] false f_ref04_Far_l17 [(2, .cref s.enc), (5, .sl σ.length 0 v 0 W 1), (7, .int .i64 n), (8, .int .i64 a), (9, .int .i64 b)] ([.cells v ((iN F).flatMap intE)] :: σ)
      (fun x e σ' => σ' = [.cells v ((iN (rlxB (adj s) a m b F)).flatMap intE)] :: σ ∧ x = .exit 6 ∧ get e 2 = .cref s.enc ∧ get e 5 = .sl σ.length 0 v 0 W 1 ∧ get e 7 = .int .i64 n ∧ get e 8 = .int .i64 a)
  | 0, b, F, hb, hF => by
    refine WL_step e_ref04_Far_l17 ?_
    have h1 : ¬ (b : Int) < s.w := by omega
    simp [-List.length_flatMap, -List.map_take, e_ref04_Far_r0, e_ref04_Far_r1, e_ref04_Far_r2, e_ref04_Far_r3, e_ref04_Far_r4, e_ref04_Far_r5, e_ref04_Far_r7, e_ref04_Far_r8, e_ref04_Far_r9, e_ref04_Far_r10, e_ref04_Far_r11, e_ref04_Far_r12, e_ref04_Far_r13, e_ref04_Far_r14, e_ref04_Far_r15, e_ref04_Far_r16, e_ref04_Far_r18, e_ref04_Far_r20, e_ref04_Far_r22, h1, rlxB]
  | m + 1, b, F, hb, hF => by
    refine WL_step e_ref04_Far_l17 ?_
    have h1 : (b : Int) < s.w := by omega
    have hw := h.w
    have w1 := w64 (n := (b : Int) + 1) (by omega)
    have hbW : b < W := by omega
    have hB := fun σ => @C_beside σ s h a b
    have ih := L_f2 h hW (n := n) (v := v) ha m (b + 1) _ (by omega) (rlx_inv (e := (a, b)) hF ⟨ha, hbW⟩).1
    rw [rlxB]
    have x1 := some_getD (F := F) (i := a) (by rw [hF.len]; exact ha)
    have x2 := some_getD (F := F) (i := b) (by rw [hF.len]; exact hbW)
    have y1 := hF.le _ _ x1
    have y2 := hF.le _ _ x2
    have a1 := iN_at x1
    have a2 := iN_at x2
    have a3 := @iN_len F
    rw [hF.len] at a3
    have b2 : b + 1 ≤ W := by omega
    unfold rlx at ih ⊢
    dsimp only at ih ⊢
    cases hs : adj s a b
    · rw [hs] at hB
      rw [hs] at ih
      rw [if_neg (by simp)] at ih ⊢
      simp [-List.length_flatMap, -List.map_take, e_ref04_Far_r0, e_ref04_Far_r1, e_ref04_Far_r2, e_ref04_Far_r3, e_ref04_Far_r4, e_ref04_Far_r5, e_ref04_Far_r7, e_ref04_Far_r8, e_ref04_Far_r9, e_ref04_Far_r10, e_ref04_Far_r11, e_ref04_Far_r12, e_ref04_Far_r13, e_ref04_Far_r14, e_ref04_Far_r15, e_ref04_Far_r16, e_ref04_Far_r18, e_ref04_Far_r20, e_ref04_Far_r22, h1, hB, w1]
      exact WL.to ih (by simp) rfl fun x e σ' hh => hh
    · rw [hs] at hB
      have w2 : IntKind.i64.wrap (((F.getD a 0 : Nat) : Int) + 1) = ((F.getD a 0 + 1 : Nat) : Int) := by rw [w64 (by omega)]; omega
      have s1 := iN_set (l := F) (i := b) (x := F.getD a 0 + 1) (by rw [hF.len]; exact hbW)
      by_cases hc : F.getD a 0 + 1 < F.getD b 0
      · rw [hs] at ih
        rw [if_pos ⟨rfl, hc⟩] at ih ⊢
        have hc' : ((F.getD a 0 + 1 : Nat) : Int) < ((F.getD b 0 : Nat) : Int) := by omega
        generalize F.getD a 0 = A at *
        generalize F.getD b 0 = B at *
        generalize hX : ((A + 1 : Nat) : Int) = X at *
        simp [-List.length_flatMap, -List.map_take, e_ref04_Far_r0, e_ref04_Far_r1, e_ref04_Far_r2, e_ref04_Far_r3, e_ref04_Far_r4, e_ref04_Far_r5, e_ref04_Far_r7, e_ref04_Far_r8, e_ref04_Far_r9, e_ref04_Far_r10, e_ref04_Far_r11, e_ref04_Far_r12, e_ref04_Far_r13, e_ref04_Far_r14, e_ref04_Far_r15, e_ref04_Far_r16, e_ref04_Far_r18, e_ref04_Far_r20, e_ref04_Far_r22, h1, hB, w1, w2, ha, hbW, a1, a2, a3, hc', s1, b2]
        exact WL.to ih (by simp) rfl fun x e σ' hh => hh
      · rw [if_neg (fun hh => hc hh.2)] at ih ⊢
        have hc' : ¬ ((F.getD a 0 + 1 : Nat) : Int) < ((F.getD b 0 : Nat) : Int) := by omega
        generalize F.getD a 0 = A at *
        generalize F.getD b 0 = B at *
        generalize hX : ((A + 1 : Nat) : Int) = X at *
        simp [-List.length_flatMap, -List.map_take, e_ref04_Far_r0, e_ref04_Far_r1, e_ref04_Far_r2, e_ref04_Far_r3, e_ref04_Far_r4, e_ref04_Far_r5, e_ref04_Far_r7, e_ref04_Far_r8, e_ref04_Far_r9, e_ref04_Far_r10, e_ref04_Far_r11, e_ref04_Far_r12, e_ref04_Far_r13, e_ref04_Far_r14, e_ref04_Far_r15, e_ref04_Far_r16, e_ref04_Far_r18, e_ref04_Far_r20, e_ref04_Far_r22, h1, hB, w1, w2, ha, hbW, a1, a2, a3, hc', s1, b2]
        exact WL.to ih (by simp) rfl fun x e σ' hh => hh
theorem L_f1 {s : Surv} (h : Sv s) {W : Nat} (hW : s.w = W) {to n v : Nat} : ∀ (m a : Nat) (F : List Nat), a + m = W → RInv (adj s) W to F →
    WL T [2, 5, 7, 8] false f_ref04_Far_l19 [(2, .cref s.enc), (5, .sl σ.length 0 v 0 W 1), (7, .int .i64 n), (8, .int .i64 a)] ([.cells v ((iN F).flatMap intE)] :: σ)
      (fun x e σ' => σ' = [.cells v ((iN (rlxA (adj s) W m a F)).flatMap intE)] :: σ ∧ x = .exit 4 ∧ get e 2 = .cref s.enc ∧ get e 5 = .sl σ.length 0 v 0 W 1 ∧ get e 7 = .int .i64 n)
  | 0, a, F, hb, hF => by
    refine WL_step e_ref04_Far_l19 ?_
    have h1 : ¬ (a : Int) < s.w := by omega
    simp [-List.length_flatMap, -List.map_take, e_ref04_Far_r0, e_ref04_Far_r1, e_ref04_Far_r2, e_ref04_Far_r3, e_ref04_Far_r4, e_ref04_Far_r5, e_ref04_Far_r7, e_ref04_Far_r8, e_ref04_Far_r9, e_ref04_Far_r10, e_ref04_Far_r11, e_ref04_Far_r12, e_ref04_Far_r13, e_ref04_Far_r14, e_ref04_Far_r15, e_ref04_Far_r16, e_ref04_Far_r18, e_ref04_Far_r20, e_ref04_Far_r22, h1, rlxA]
  | m + 1, a, F, hb, hF => by
    refine WL_step e_ref04_Far_l19 ?_
    have h1 : (a : Int) < s.w := by omega
    have hw := h.w
    have w1 := w64 (n := (a : Int) + 1) (by omega)
    have ih := L_f1 h hW (n := n) (v := v) m (a + 1) _ (by omega) (rlxB_inv (a := a) (by omega) W 0 F (by omega) hF)
    rw [rlxA]
    simp [-List.length_flatMap, -List.map_take, e_ref04_Far_r0, e_ref04_Far_r1, e_ref04_Far_r2, e_ref04_Far_r3, e_ref04_Far_r4, e_ref04_Far_r5, e_ref04_Far_r7, e_ref04_Far_r8, e_ref04_Far_r9, e_ref04_Far_r10, e_ref04_Far_r11, e_ref04_Far_r12, e_ref04_Far_r13, e_ref04_Far_r14, e_ref04_Far_r15, e_ref04_Far_r16, e_ref04_Far_r18, e_ref04_Far_r20, e_ref04_Far_r22, h1]
    refine WL.to (L_f2 (σ := σ) h hW (n := n) (v := v) (a := a) (by omega) W 0 F (by omega) hF) (by simp) rfl ?_
    rintro x e σ' ⟨rfl, rfl, g2, g5, g7, g8⟩
    simp only [Surv.enc] at g2
    simp [-List.length_flatMap, -List.map_take, e_ref04_Far_r18, g2, g5, g7, g8, w1]
    exact WL.to ih (by simp) rfl fun x e σ' hh => hh
theorem L_f0 {s : Surv} (h : Sv s) {W : Nat} (hW : s.w = W) {to v : Nat} : ∀ (m n : Nat) (F : List Nat), n + m = W → RInv (adj s) W to F →
    WL T [2, 5, 7] false f_ref04_Far_l21 [(2, .cref s.enc), (5, .sl σ.length 0 v 0 W 1), (7, .int .i64 n)] ([.cells v ((iN F).flatMap intE)] :: σ)
      (fun x e σ' => σ' = [.cells v ((iN (rep (rlxR (adj s) W) m F)).flatMap intE)] :: σ ∧ x = .exit 2 ∧ get e 5 = .sl σ.length 0 v 0 W 1)
  | 0, n, F, hb, hF => by
    refine WL_step e_ref04_Far_l21 ?_
    have h1 : ¬ (n : Int) < s.w := by omega
    simp [-List.length_flatMap, -List.map_take, e_ref04_Far_r0, e_ref04_Far_r1, e_ref04_Far_r2, e_ref04_Far_r3, e_ref04_Far_r4, e_ref04_Far_r5, e_ref04_Far_r7, e_ref04_Far_r8, e_ref04_Far_r9, e_ref04_Far_r10, e_ref04_Far_r11, e_ref04_Far_r12, e_ref04_Far_r13, e_ref04_Far_r14, e_ref04_Far_r15, e_ref04_Far_r16, e_ref04_Far_r18, e_ref04_Far_r20, e_ref04_Far_r22, h1, rep]
  | m + 1, n, F, hb, hF => by
    refine WL_step e_ref04_Far_l21 ?_
    have h1 : (n : Int) < s.w := by omega
    have hw := h.w
    have w1 := w64 (n := (n : Int) + 1) (by omega)
    have ih := L_f0 h hW (v := v) m (n + 1) _ (by omega) (rlxR_inv hF)
    have e1 : rep (rlxR (adj s) W) (m + 1) F = rep (rlxR (adj s) W) m (rlxR (adj s) W F) := rep_add 1 m
    rw [e1]
    simp [-List.length_flatMap, -List.map_take, e_ref04_Far_r0, e_ref04_Far_r1, e_ref04_Far_r2, e_ref04_Far_r3, e_ref04_Far_r4, e_ref04_Far_r5, e_ref04_Far_r7, e_ref04_Far_r8, e_ref04_Far_r9, e_ref04_Far_r10, e_ref04_Far_r11, e_ref04_Far_r12, e_ref04_Far_r13, e_ref04_Far_r14, e_ref04_Far_r15, e_ref04_Far_r16, e_ref04_Far_r18, e_ref04_Far_r20, e_ref04_Far_r22, h1]
    refine WL.to (L_f1 (σ := σ) h hW (n := n) (v := v) W 0 F (by omega) hF) (by simp) rfl ?_
    rintro x e σ' ⟨rfl, rfl, g2, g5, g7⟩
    rw [← rlxR_eq]
    simp only [Surv.enc] at g2
    simp [-List.length_flatMap, -List.map_take, e_ref04_Far_r20, g2, g5, g7, w1]
    exact WL.to ih (by simp) rfl fun x e σ' hh => hh
theorem L_fz {s : Surv} (h : Sv s) {W : Nat} (hW : s.w = W) {to v : Nat} : ∀ (m i : Nat) (F : List Nat), i + m = W → F.length = W → (∀ j, j < i → F[j]? = some W) →
    WL T [1, 2, 5, 6] false f_ref04_Far_l6 [(1, .int .i64 to), (2, .cref s.enc), (5, .sl σ.length 0 v 0 W 1), (6, .int .i64 i)] ([.cells v ((iN F).flatMap intE)] :: σ)
      (fun x e σ' => σ' = [.cells v ((iN (List.replicate W W)).flatMap intE)] :: σ ∧ x = .exit 0 ∧ get e 1 = .int .i64 to ∧ get e 2 = .cref s.enc ∧ get e 5 = .sl σ.length 0 v 0 W 1)
  | 0, i, F, hb, hF, hj => by
    refine WL_step e_ref04_Far_l6 ?_
    have h1 : ¬ (i : Int) < s.w := by omega
    have h2 : F = List.replicate W W := by
      refine List.eq_replicate_iff.2 ⟨hF, fun x hx => ?_⟩
      obtain ⟨j, hj2⟩ := List.mem_iff_getElem?.1 hx
      have hj1 := (List.getElem?_eq_some_iff.1 hj2).1
      have := hj j (by omega)
      rw [hj2] at this
      exact Option.some.inj this
    subst h2
    simp [-List.length_flatMap, -List.map_take, e_ref04_Far_r0, e_ref04_Far_r1, e_ref04_Far_r2, e_ref04_Far_r3, e_ref04_Far_r4, e_ref04_Far_r5, e_ref04_Far_r7, e_ref04_Far_r8, e_ref04_Far_r9, e_ref04_Far_r10, e_ref04_Far_r11, e_ref04_Far_r12, e_ref04_Far_r13, e_ref04_Far_r14, e_ref04_Far_r15, e_ref04_Far_r16, e_ref04_Far_r18, e_ref04_Far_r20, e_ref04_Far_r22, h1]
  | m + 1, i, F, hb, hF, hj => by
    refine WL_step e_ref04_Far_l6 ?_
    have h1 : (i : Int) < s.w := by omega
    have hw := h.w
    have w1 := w64 (n := (i : Int) + 1) (by omega)
    have ih := L_fz h hW (to := to) (v := v) m (i + 1) (F.set i W) (by omega) (by simpa using hF) (fun j hj' => by
      by_cases e : i = j
      · subst e; rw [List.getElem?_set_self (by omega)]
      · rw [List.getElem?_set_ne e]; exact hj j (by omega))
    have s1 := iN_set (l := F) (i := i) (x := W) (by omega)
    have hiW : i < W := by omega
    have b2 : i + 1 ≤ W := by omega
    have a3 := @iN_len F
    rw [hF] at a3
    rw [hW] at h1
    have h1' : i < W := hiW
    simp [-List.length_flatMap, -List.map_take, e_ref04_Far_r0, e_ref04_Far_r1, e_ref04_Far_r2, e_ref04_Far_r3, e_ref04_Far_r4, e_ref04_Far_r5, e_ref04_Far_r7, e_ref04_Far_r8, e_ref04_Far_r9, e_ref04_Far_r10, e_ref04_Far_r11, e_ref04_Far_r12, e_ref04_Far_r13, e_ref04_Far_r14, e_ref04_Far_r15, e_ref04_Far_r16, e_ref04_Far_r18, e_ref04_Far_r20, e_ref04_Far_r22, h1, h1', w1, hW, s1, b2, a3]
    exact WL.to ih (by simp [hW]) rfl fun x e σ' hh => by simpa [hW] using hh
theorem mk_zero {W : Nat} : (List.range W).flatMap (fun _ => [D.int .i64 0]) = (iN (List.replicate W 0)).flatMap intE := by
  induction W with
  | zero => rfl
  | succ n ih => rw [List.range_succ, List.flatMap_append, ih, List.replicate_succ', iN_snoc]; rfl
theorem C_Far {s : Surv} (h : Sv s) {to : Nat} (ht : to < s.w.toNat) (hσ : σ ≠ []) : lim T (.call false i_ref04_Far [.agg [.int .i64 s.w, .int .i64 s.lv, .lst s.l.length (s.l.flatMap Seen.enc)], .int .i64 to] σ) = some (.val (.lst s.w.toNat ((iN (farS s to)).flatMap intE)) σ) := by
  refine call_of T_ref04_Far e_ref04_Far rfl ?_
  have hw := h.w
  obtain ⟨W, hW⟩ : ∃ W : Nat, s.w = W := ⟨s.w.toNat, by omega⟩
  have e0 : s.w.toNat = W := by omega
  rw [e0] at ht ⊢
  have hz := @mk_zero W
  have hr : (W : Int) * 8 ≤ (room : Int) := by unfold room; omega
  simp [-List.length_flatMap, -List.map_take, e_ref04_Far_r0, e_ref04_Far_r1, e_ref04_Far_r2, e_ref04_Far_r3, e_ref04_Far_r4, e_ref04_Far_r5, e_ref04_Far_r7, e_ref04_Far_r8, e_ref04_Far_r9, e_ref04_Far_r10, e_ref04_Far_r11, e_ref04_Far_r12, e_ref04_Far_r13, e_ref04_Far_r14, e_ref04_Far_r15, e_ref04_Far_r16, e_ref04_Far_r18, e_ref04_Far_r20, e_ref04_Far_r22, hW, hz, hr]
  refine WL.to (L_fz (σ := σ) h hW (to := to) (v := 0) W 0 (List.replicate W 0) (by omega) (by simp) (fun j hj => by omega)) (by simp [hW]) rfl ?_
  rintro x e σ' ⟨rfl, rfl, g1, g2, g5⟩
  have s1 := iN_set (l := List.replicate W W) (i := to) (x := 0) (by simpa using ht)
  have b2 : to + 1 ≤ W := by omega
  have a3 := @iN_len (List.replicate W W)
  simp only [List.length_replicate] at a3
  have hz2 : (List.replicate W W).set to 0 = farZ W to := rfl
  rw [hz2, show ((0 : Nat) : Int) = 0 from rfl] at s1
  simp only [Surv.enc] at g2
  simp [-List.length_flatMap, -List.map_take, e_ref04_Far_r7, e_ref04_Far_r8, g1, g2, g5, ht, a3, b2, s1]
  refine WL.to (L_f0 (σ := σ) h hW (v := 0) W 0 (farZ W to) (by omega) (farZ_inv ht)) (by simp) rfl ?_
  rintro x e σ' ⟨rfl, rfl, g5⟩
  have hr : rep (rlxR (adj s) W) W (farZ W to) = farS s to := by unfold farS farR; rw [e0]
  rw [hr]
  simp [-List.length_flatMap, -List.map_take, e_ref04_Far_r22, g5]
  have hl : (farS s to).length = W := by have := (far_fin h (to := to) (by omega)).b.len; omega
  have := k_out (f := intE) (w := 1) (fun _ => rfl) (fun x => by simp) (l := iN (farS s to)) (j := 0) (v := 0) (bs := [.cells 0 ((iN (farS s to)).flatMap intE)]) hσ rfl
  simp only [iN_length, hl] at this
  rw [this]
  simp

/-! ### A way -/

theorem fin_at {s : Surv} {to : Nat} {F : List Nat} (hf : Fin (adj s) s.w.toNat to F) {i : Nat} (hi : i < s.w.toNat) : F[i]? = some (F.getD i 0) ∧ F.getD i 0 ≤ s.w.toNat :=
  ⟨some_getD (by rw [hf.b.len]; exact hi), hf.b.le i hi⟩
theorem L_w8 {s : Surv} (h : Sv s) {W : Nat} (hW : s.w = W) {to : Nat} {F : List Nat} (hf : Fin (adj s) s.w.toNat to F) {a n : Nat} (ha : a < s.w.toNat) (hN : Nxt s F a n) {o : D} (ho : o.calm = o) : ∀ (m j : Nat), j + m = n →
    WL T [2, 3, 7, 8, 9, 10] false f_ref04_Way_l8 [(2, .int .i64 to), (3, .cref s.enc), (7, .lst W ((iN F).flatMap intE)), (8, o), (9, .int .i64 a), (10, .int .i64 j)] σ
      (fun x e σ' => σ' = σ ∧ x = .exit 2 ∧ get e 2 = .int .i64 to ∧ get e 3 = .cref s.enc ∧ get e 7 = .lst W ((iN F).flatMap intE) ∧ get e 8 = o ∧ get e 10 = .int .i64 n)
  | 0, j, hj => by
    refine WL_step e_ref04_Way_l8 ?_
    obtain rfl : j = n := by omega
    have hw := h.w
    have hB := fun σ => @C_beside σ s h a j
    have hlt := hN.lt
    have x1 := fin_at hf ha
    have x2 := fin_at hf hlt
    have a1 := iN_at x1.1
    have a2 := iN_at x2.1
    have hfar := hN.far
    have haW : a < W := by omega
    have hjW : j < W := by omega
    have w2 : IntKind.i64.wrap (((F.getD a 0 : Nat) : Int) - 1) = ((F.getD j 0 : Nat) : Int) := by rw [w64 (by omega)]; omega
    rw [hN.adj] at hB
    generalize F.getD a 0 = A at *
    generalize F.getD j 0 = B at *
    simp [-List.length_flatMap, -List.map_take, e_ref04_Way_r0, e_ref04_Way_r1, e_ref04_Way_r2, e_ref04_Way_r3, e_ref04_Way_r4, e_ref04_Way_r5, e_ref04_Way_r6, e_ref04_Way_r7, e_ref04_Way_r9, e_ref04_Way_r10, e_ref04_Way_r12, hB, haW, hjW, a1, a2, w2, ho]
  | m + 1, j, hj => by
    refine WL_step e_ref04_Way_l8 ?_
    have hw := h.w
    have hB := fun σ => @C_beside σ s h a j
    have hlt := hN.lt
    have hjs : j < s.w.toNat := by omega
    have x1 := fin_at hf ha
    have x2 := fin_at hf hjs
    have a1 := iN_at x1.1
    have a2 := iN_at x2.1
    have haW : a < W := by omega
    have hjW : j < W := by omega
    have hpos := hN.far
    have w1 := w64 (n := (j : Int) + 1) (by omega)
    have w2 : IntKind.i64.wrap (((F.getD a 0 : Nat) : Int) - 1) = ((F.getD a 0 - 1 : Nat) : Int) := by rw [w64 (by omega)]; omega
    have ih := L_w8 h hW hf ha hN ho m (j + 1) (by omega)
    cases hs : adj s a j
    · rw [hs] at hB
      simp [-List.length_flatMap, -List.map_take, e_ref04_Way_r0, e_ref04_Way_r1, e_ref04_Way_r2, e_ref04_Way_r3, e_ref04_Way_r4, e_ref04_Way_r5, e_ref04_Way_r6, e_ref04_Way_r7, e_ref04_Way_r9, e_ref04_Way_r10, e_ref04_Way_r12, hB, w1, ho]
      exact WL.to ih (by simp) rfl fun x e σ' hh => hh
    · rw [hs] at hB
      have hne : ¬ F.getD j 0 = F.getD a 0 - 1 := fun e => by
        have := hN.least j hs (by omega)
        omega
      have q1 : (((F.getD j 0 : Nat) : Int) == ((F.getD a 0 - 1 : Nat) : Int)) = false := by rw [qN, decide_eq_false hne]
      have q2 : ¬ ((F.getD j 0 : Nat) : Int) = ((F.getD a 0 - 1 : Nat) : Int) := by omega
      generalize F.getD a 0 - 1 = A1 at *
      generalize F.getD a 0 = A at *
      generalize F.getD j 0 = B at *
      simp [-List.length_flatMap, -List.map_take, e_ref04_Way_r0, e_ref04_Way_r1, e_ref04_Way_r2, e_ref04_Way_r3, e_ref04_Way_r4, e_ref04_Way_r5, e_ref04_Way_r6, e_ref04_Way_r7, e_ref04_Way_r9, e_ref04_Way_r10, e_ref04_Way_r12, hB, haW, hjW, a1, a2, w1, w2, q1, q2, ho]
      exact WL.to ih (by simp) rfl fun x e σ' hh => hh
theorem L_w11 {s : Surv} (h : Sv s) {W : Nat} (hW : s.w = W) {to : Nat} {F : List Nat} (hf : Fin (adj s) s.w.toNat to F) : ∀ (k a : Nat) (o : List Nat) (v : Nat), a < s.w.toNat → F.getD a 0 = k → k < s.w.toNat → o.length + k ≤ 100 →
    WL T [2, 3, 7, 8, 9] false f_ref04_Way_l11 [(2, .int .i64 to), (3, .cref s.enc), (7, .lst W ((iN F).flatMap intE)), (8, .sl σ.length 0 v 0 o.length 1), (9, .int .i64 a)] ([.cells v ((iN o).flatMap intE)] :: σ)
      (fun x e σ' => x = .exit 0 ∧ ∃ v' r, r = o ++ wayL s F k a ∧ σ' = [.cells v' ((iN r).flatMap intE)] :: σ ∧ get e 8 = .sl σ.length 0 v' 0 r.length 1)
  | 0, a, o, v, ha, hk, hkW, hl => by
    refine WL_step e_ref04_Way_l11 ?_
    have hat : a = to := by
      rcases hf.b.lv a ha (by omega) with ⟨_, hh⟩ | ⟨_, _, _, hh⟩
      · exact hh
      · omega
    subst hat
    simp [-List.length_flatMap, -List.map_take, e_ref04_Way_r0, e_ref04_Way_r1, e_ref04_Way_r2, e_ref04_Way_r3, e_ref04_Way_r4, e_ref04_Way_r5, e_ref04_Way_r6, e_ref04_Way_r7, e_ref04_Way_r9, e_ref04_Way_r10, e_ref04_Way_r12, wayL]
  | k + 1, a, o, v, ha, hk, hkW, hl => by
    refine WL_step e_ref04_Way_l11 ?_
    have hat : ¬ (a : Int) = to := fun e => by
      have : a = to := by omega
      subst this
      have := hf.b.z; omega
    have hN := nxt_ok h hf ha (by omega) (by omega)
    have hfar := hN.far
    have ih := L_w11 h hW hf k (nxt s F a) (o ++ [nxt s F a]) (v + 1) hN.lt (by omega) (by omega) (by simp only [List.length_append, List.length_cons, List.length_nil]; omega)
    simp [-List.length_flatMap, -List.map_take, e_ref04_Way_r0, e_ref04_Way_r1, e_ref04_Way_r2, e_ref04_Way_r3, e_ref04_Way_r4, e_ref04_Way_r5, e_ref04_Way_r6, e_ref04_Way_r7, e_ref04_Way_r9, e_ref04_Way_r10, e_ref04_Way_r12, hat]
    refine WL.to (L_w8 (σ := [.cells v ((iN o).flatMap intE)] :: σ) h hW hf ha hN (o := .sl σ.length 0 v 0 o.length 1) rfl (nxt s F a) 0 (by omega)) (by simp) rfl ?_
    rintro x e σ' ⟨rfl, rfl, g2, g3, g7, g8, g10⟩
    rw [iN_snoc] at ih
    have e1 : (o ++ [nxt s F a]).length = o.length + 1 := by simp
    rw [e1] at ih
    have e2 : wayL s F (k + 1) a = nxt s F a :: wayL s F k (nxt s F a) := rfl
    rw [e2]
    generalize nxt s F a = n at *
    have a3 := @iN_len o
    have a4 := @iN_all o
    have h7 : (o.length + 1) * 8 ≤ room := by unfold room; omega
    simp only [Surv.enc] at g3
    simp [-List.length_flatMap, -List.map_take, e_ref04_Way_r9, e_ref04_Way_r10, g2, g3, g7, g8, g10, a3, a4, h7]
    exact WL.to ih (by simp) (by simp) fun x e σ' hh => by simpa using hh
theorem C_WayR {s : Surv} (h : Sv s) {a to : Nat} (ha : a < s.w.toNat) (ht : to < s.w.toNat) (hg : Gr s a = Gr s to) (hσ : σ ≠ []) :
    lim T (.call false i_ref04_Way [.agg [.int .i64 s.w, .int .i64 s.lv, .lst s.l.length (s.l.flatMap Seen.enc)], .int .i64 a, .int .i64 to] σ) = some (.val (.lst (wayS s a to).length ((iN (wayS s a to)).flatMap intE)) σ) := by
  refine call_of T_ref04_Way e_ref04_Way rfl ?_
  have hw := h.w
  obtain ⟨W, hW⟩ : ∃ W : Nat, s.w = W := ⟨s.w.toNat, by omega⟩
  have e0 : s.w.toNat = W := by omega
  have hf := far_fin h ht
  have hlt := far_lt h ht hg
  have hF := C_Far (σ := [] :: σ) h ht (by simp)
  rw [e0] at hF
  simp [-List.length_flatMap, -List.map_take, e_ref04_Way_r0, e_ref04_Way_r1, e_ref04_Way_r2, e_ref04_Way_r3, e_ref04_Way_r4, e_ref04_Way_r5, e_ref04_Way_r6, e_ref04_Way_r7, e_ref04_Way_r9, e_ref04_Way_r10, e_ref04_Way_r12, hF]
  refine WL.to (L_w11 (σ := σ) h hW hf ((farS s to).getD a 0) a [a] 0 ha rfl hlt (by simp only [List.length_cons, List.length_nil]; omega)) (by simp) (by simp [iN]) ?_
  rintro x e σ' ⟨rfl, v', r, hr, rfl, g8⟩
  have hr : r = wayS s a to := hr
  rw [← hr]
  simp [-List.length_flatMap, -List.map_take, e_ref04_Way_r12, g8]
  have := k_out (f := intE) (w := 1) (fun _ => rfl) (fun x => by simp) (l := iN r) (j := 0) (v := v') (bs := [.cells v' ((iN r).flatMap intE)]) hσ rfl
  simp only [iN_length] at this
  rw [this]
  simp
end Go.Proofs.Ytcjjdaifpboaaaa
