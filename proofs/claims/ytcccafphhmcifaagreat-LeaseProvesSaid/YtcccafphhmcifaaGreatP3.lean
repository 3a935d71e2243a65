/-
  An amount in parts, layer 11: of the program and by the document's words.
-/
import Derived.Test.YtcccafphhmcifaaGreatP2
import Derived.Test.YtcccafphhmcifaaGreatAllSpec
set_option linter.unusedVariables false
set_option linter.unusedSimpArgs false
namespace Go.Proofs.YtcccafphhmcifaaGreat
open Go Go.Abs Go.Lease
variable {σ : Stack}

theorem int_drop {l : List Int} {i : Nat} {x : Int} (hx : l[i]? = some x) : (l.flatMap intE).drop i = .int .i64 x :: (l.flatMap intE).drop (i + 1) := by
  have := k_drop (f := intE) (w := 1) (fun _ => rfl) hx
  simpa using this
theorem int_len (l : List Int) : (l.flatMap intE).length = l.length := by
  have := flat_len (f := intE) (w := 1) (fun _ => rfl) l
  simpa using this
theorem int_set {l : List Int} {i : Nat} {x : Int} (hi : i < l.length) : (l.flatMap intE).take i ++ .int .i64 x :: (l.flatMap intE).drop (i + 1) = (l.set i x).flatMap intE := by
  have := k_set (f := intE) (w := 1) (l := l) (i := i) (x := x) (fun _ => rfl) hi
  simpa using this
theorem splitQ_len {a W : Int} {ws : List Int} : (splitQ a W ws).length = ws.length := by simp [splitQ]
theorem splitQ_get {a W : Int} {ws : List Int} {i : Nat} {w : Int} (h : ws[i]? = some w) : (splitQ a W ws)[i]? = some (a * w / W) := by simp [splitQ, h]
/-- What the weights are. -/
structure WP (a : Int) (ws : List Int) : Prop where
  a0 : 0 ≤ a
  a1 : a ≤ 1000000000000
  n0 : 0 < ws.length
  n1 : ws.length ≤ 8
  w : ∀ x ∈ ws, 0 ≤ x ∧ x ≤ sumI ws
  s0 : 0 < sumI ws
  s1 : sumI ws ≤ 8000000000000
theorem sum_ge : ∀ {l : List Int}, (∀ x ∈ l, 0 ≤ x) → ∀ x ∈ l, x ≤ sumI l
  | [], _, x, h => by simp at h
  | y :: l, h, x, hx => by
    have h1 := sumI_bd (lo := 0) (hi := sumI l) (l := []) (by simp)
    have h2 : 0 ≤ sumI l := by
      have : ∀ l : List Int, (∀ x ∈ l, 0 ≤ x) → 0 ≤ sumI l := fun l => by
        induction l with
        | nil => intro _; exact Int.le_refl _
        | cons z l ih => intro h; have := ih fun x hx => h x (by simp [hx]); have := h z (by simp); simp only [sumI]; omega
      exact this l fun x hx => h x (by simp [hx])
    have h3 := h y (by simp)
    simp only [sumI]
    rcases List.mem_cons.1 hx with rfl | hx
    · omega
    · have := sum_ge (l := l) (fun x hx => h x (by simp [hx])) x hx
      omega
theorem wp_of {a : Int} {ws : List Int} (ha : 0 ≤ a ∧ a ≤ 1000000000000) (h : wsOk ws = true) : WP a ws := by
  have h1 := wsOk_iff.1 h
  have h2 := sumI_bd (lo := 0) (hi := 1000000000000) h1.2.1
  exact ⟨ha.1, ha.2, by omega, by omega, fun x hx => ⟨(h1.2.1 x hx).1, sum_ge (fun x hx => (h1.2.1 x hx).1) x hx⟩, h1.2.2, by omega⟩
theorem restJ_bd {a : Int} {ws : List Int} (h : WP a ws) (j : Nat) : -10000000000000 ≤ a - sumI ((splitQ a (sumI ws) ws).take j) ∧ a - sumI ((splitQ a (sumI ws) ws).take j) ≤ 1000000000000 ∧ ∀ q ∈ splitQ a (sumI ws) ws, 0 ≤ q ∧ q ≤ 1000000000000 := by
  have hq : ∀ q ∈ splitQ a (sumI ws) ws, 0 ≤ q ∧ q ≤ 1000000000000 := fun q hq => by
    simp only [splitQ, List.mem_map] at hq
    obtain ⟨w, hw, rfl⟩ := hq
    have h1 := h.w w hw
    have h2 := q_bd h.s0 h.a0 h1.1 h1.2
    have := h.a1
    omega
  have h1 := sumI_bd (lo := 0) (hi := 1000000000000) (l := (splitQ a (sumI ws) ws).take j) fun q hq' => hq q (List.mem_of_mem_take hq')
  have h2 : ((splitQ a (sumI ws) ws).take j).length ≤ 8 := by simp [splitQ]; have := h.n1; omega
  have := h.a0
  have := h.a1
  exact ⟨by omega, by omega, hq⟩
theorem L_Split1 {a : Int} {ws : List Int} (h : WP a ws) : ∀ (m j v : Nat), j + m = ws.length →
    WL T [0, 1, 6, 7, 8, 37, 38, 39] false f_lease_Split_l15 [(0, .int .i64 a), (1, .lst ws.length (ws.flatMap intE)), (6, .int .i64 (sumI ws)), (7, .sl σ.length 0 v 0 j 2), (8, .int .i64 (a - sumI ((splitQ a (sumI ws) ws).take j))), (37, .lst ws.length (ws.flatMap intE)), (38, .int .i64 ws.length), (39, .int .i64 j)] ([.cells v ((ws.take j).flatMap (ptE a (sumI ws)))] :: σ)
      (fun x e σ' => x = .exit 0 ∧ get e 1 = .lst ws.length (ws.flatMap intE) ∧ get e 7 = .sl σ.length 0 (v + m) 0 ws.length 2 ∧ get e 8 = .int .i64 (restI a ws) ∧ σ' = [.cells (v + m) (ws.flatMap (ptE a (sumI ws)))] :: σ)
  | 0, j, v, hi => by
    refine WL_step e_lease_Split_l15 ?_
    have g1 : ¬ j < ws.length := by omega
    have g2 : ws.take j = ws := List.take_of_length_le (by omega)
    have g3 : (splitQ a (sumI ws) ws).take j = splitQ a (sumI ws) ws := List.take_of_length_le (by rw [splitQ_len]; omega)
    have g4 : j = ws.length := by omega
    rw [g2, g3, g4]
    simp [-List.length_flatMap, -List.map_take, e_lease_Split_r0, e_lease_Split_r1, e_lease_Split_r2, e_lease_Split_r3, e_lease_Split_r4, e_lease_Split_r5, e_lease_Split_r6, e_lease_Split_r7, e_lease_Split_r8, e_lease_Split_r9, e_lease_Split_r10, e_lease_Split_r11, e_lease_Split_r12, e_lease_Split_r13, e_lease_Split_r14, e_lease_Split_r16, e_lease_Split_r17, e_lease_Split_r18, e_lease_Split_r19, e_lease_Split_r20, e_lease_Split_r21, e_lease_Split_r23, e_lease_Split_r24, e_lease_Split_r25, e_lease_Split_r26, e_lease_Split_r27, e_lease_Split_r29, restI]
  | m + 1, j, v, hi => by
    refine WL_step e_lease_Split_l15 ?_
    have hn := h.n1
    have g1 : j < ws.length := by omega
    obtain ⟨w, hw⟩ : ∃ x, ws[j]? = some x := ⟨_, List.getElem?_eq_getElem g1⟩
    have hwb := h.w w (List.mem_of_getElem? hw)
    have hC := fun σ => C_part (σ := σ) ⟨h.a0, h.a1⟩ hwb h.s0 (by have := h.s1; omega)
    have a1 := int_at hw
    have b3 := flat_take (f := ptE a (sumI ws)) (w := 2) (fun _ => rfl) (Nat.le_of_lt g1)
    have b4 := flat_snoc (f := ptE a (sumI ws)) hw
    have b5 := flat_len (f := ptE a (sumI ws)) (w := 2) (fun _ => rfl) (ws.take j)
    have b7 : (j + 1) * 16 ≤ room := by unfold room; omega
    have b8 : min j ws.length = j := by omega
    have w1 := wnext g1 (by omega)
    have hs : sumI ((splitQ a (sumI ws) ws).take (j + 1)) = sumI ((splitQ a (sumI ws) ws).take j) + a * w / sumI ws := by
      rw [List.take_add_one, splitQ_get hw, sumI_app]; simp [sumI]
    have r1 := restJ_bd h j
    have r2 := restJ_bd h (j + 1)
    have w2 := w64 (n := a - sumI ((splitQ a (sumI ws) ws).take j) - a * w / sumI ws) (by omega)
    have ih := L_Split1 h m (j + 1) (v + 1) (by omega)
    simp [-List.length_flatMap, -List.map_take, e_lease_Split_r0, e_lease_Split_r1, e_lease_Split_r2, e_lease_Split_r3, e_lease_Split_r4, e_lease_Split_r5, e_lease_Split_r6, e_lease_Split_r7, e_lease_Split_r8, e_lease_Split_r9, e_lease_Split_r10, e_lease_Split_r11, e_lease_Split_r12, e_lease_Split_r13, e_lease_Split_r14, e_lease_Split_r16, e_lease_Split_r17, e_lease_Split_r18, e_lease_Split_r19, e_lease_Split_r20, e_lease_Split_r21, e_lease_Split_r23, e_lease_Split_r24, e_lease_Split_r25, e_lease_Split_r26, e_lease_Split_r27, e_lease_Split_r29, g1, a1, hC, b3, b5, b7, b8, w1, w2]
    refine WL.to ih (by simp [hs]; omega) (by simp [← b4]) fun x e σ hh => by simpa [Nat.add_assoc, Nat.add_comm 1 m] using hh
theorem L_Split2 {a : Int} {ws : List Int} (h : WP a ws) {B : Blk} : ∀ (m j : Nat), j + m = ws.length →
    WL T [7, 8, 12, 59, 60, 61] false f_lease_Split_l22 [(7, .lst ws.length (ws.flatMap (ptE a (sumI ws)))), (8, .int .i64 (restI a ws)), (12, .sl σ.length 1 0 0 ws.length 1), (59, .lst ws.length (ws.flatMap (ptE a (sumI ws)))), (60, .int .i64 ws.length), (61, .int .i64 j)] ([B, .cells 0 ((mixI (splitQ a (sumI ws) ws) (zeroL ws.length) j).flatMap intE)] :: σ)
      (fun x e σ' => x = .exit 2 ∧ get e 7 = .lst ws.length (ws.flatMap (ptE a (sumI ws))) ∧ get e 8 = .int .i64 (restI a ws) ∧ get e 12 = .sl σ.length 1 0 0 ws.length 1 ∧ σ' = [B, .cells 0 ((splitQ a (sumI ws) ws).flatMap intE)] :: σ)
  | 0, j, hi => by
    refine WL_step e_lease_Split_l22 ?_
    have g1 : ¬ j < ws.length := by omega
    have g2 : mixI (splitQ a (sumI ws) ws) (zeroL ws.length) j = splitQ a (sumI ws) ws := by
      rw [show j = (splitQ a (sumI ws) ws).length by rw [splitQ_len]; omega]
      exact mix_all (by rw [splitQ_len, zeroL_len]; omega)
    rw [g2]
    simp [-List.length_flatMap, -List.map_take, e_lease_Split_r0, e_lease_Split_r1, e_lease_Split_r2, e_lease_Split_r3, e_lease_Split_r4, e_lease_Split_r5, e_lease_Split_r6, e_lease_Split_r7, e_lease_Split_r8, e_lease_Split_r9, e_lease_Split_r10, e_lease_Split_r11, e_lease_Split_r12, e_lease_Split_r13, e_lease_Split_r14, e_lease_Split_r16, e_lease_Split_r17, e_lease_Split_r18, e_lease_Split_r19, e_lease_Split_r20, e_lease_Split_r21, e_lease_Split_r23, e_lease_Split_r24, e_lease_Split_r25, e_lease_Split_r26, e_lease_Split_r27, e_lease_Split_r29, g1]
  | m + 1, j, hi => by
    refine WL_step e_lease_Split_l22 ?_
    have hn := h.n1
    have g1 : j < ws.length := by omega
    obtain ⟨w, hw⟩ : ∃ x, ws[j]? = some x := ⟨_, List.getElem?_eq_getElem g1⟩
    have hL : (splitQ a (sumI ws) ws).length = (zeroL ws.length).length := by rw [splitQ_len, zeroL_len]
    have a1 := pt_at (a := a) (W := sumI ws) hw
    have a3 := mix_write hL (splitQ_get hw)
    have a4 := int_len (mixI (splitQ a (sumI ws) ws) (zeroL ws.length) j)
    rw [mix_len hL (by rw [splitQ_len]; omega), zeroL_len] at a4
    have w1 := wnext g1 (by omega)
    have g3 : j + 1 ≤ ws.length := by omega
    have ih := L_Split2 h (B := B) m (j + 1) (by omega)
    simp [-List.length_flatMap, -List.map_take, e_lease_Split_r0, e_lease_Split_r1, e_lease_Split_r2, e_lease_Split_r3, e_lease_Split_r4, e_lease_Split_r5, e_lease_Split_r6, e_lease_Split_r7, e_lease_Split_r8, e_lease_Split_r9, e_lease_Split_r10, e_lease_Split_r11, e_lease_Split_r12, e_lease_Split_r13, e_lease_Split_r14, e_lease_Split_r16, e_lease_Split_r17, e_lease_Split_r18, e_lease_Split_r19, e_lease_Split_r20, e_lease_Split_r21, e_lease_Split_r23, e_lease_Split_r24, e_lease_Split_r25, e_lease_Split_r26, e_lease_Split_r27, e_lease_Split_r29, g1, a1, a3, a4, w1, g3]
    exact WL.to ih (by simp) rfl fun x e σ hh => hh
theorem incs_take {l : List Int} {is : List Nat} {k i : Nat} (h : is[k]? = some i) : incs l (is.take (k + 1)) = incAt (incs l (is.take k)) i := by
  rw [List.take_add_one, h]; exact incs_snoc ..
theorem incs_bd : ∀ (is : List Nat) (l : List Int) (M : Int), (∀ x ∈ l, 0 ≤ x ∧ x ≤ M) → ∀ x ∈ incs l is, 0 ≤ x ∧ x ≤ M + is.length
  | [], l, M, h, x, hx => by simpa [incs] using h x hx
  | i :: is, l, M, h, x, hx => by
    have h1 : ∀ y ∈ incAt l i, 0 ≤ y ∧ y ≤ M + 1 := fun y hy => by
      rcases List.mem_or_eq_of_mem_set hy with h2 | h2
      · have := h y h2; omega
      · rw [h2, List.getD_eq_getElem?_getD]
        cases hi : l[i]? with
        | none =>
          have : incAt l i = l := by
            unfold incAt
            rw [List.getElem?_eq_none_iff] at hi
            rw [List.set_eq_of_length_le hi]
          rw [this] at hy
          have := h y hy
          rw [h2, List.getD_eq_getElem?_getD, hi] at this
          simp at this ⊢; omega
        | some z => have := h z (List.mem_of_getElem? hi); simp; omega
    have := incs_bd is (incAt l i) (M + 1) h1 x hx
    simp only [List.length_cons]
    omega
theorem L_Split3 {ws : List Int} {Q : List Int} {is : List Nat} (hQ : Q.length = ws.length) (hn : ws.length ≤ 8) (hq : ∀ q ∈ Q, 0 ≤ q ∧ q ≤ 1000000000000) (his : ∀ i ∈ is, i < ws.length) (hil : is.length ≤ 8) {B : Blk} : ∀ (m k : Nat), k + m = is.length →
    WL T [12, 75, 76, 77] false f_lease_Split_l28 [(12, .sl σ.length 1 0 0 ws.length 1), (75, .lst is.length (is.flatMap natE)), (76, .int .i64 is.length), (77, .int .i64 k)] ([B, .cells 0 ((incs Q (is.take k)).flatMap intE)] :: σ)
      (fun x e σ' => x = .exit 4 ∧ get e 12 = .sl σ.length 1 0 0 ws.length 1 ∧ σ' = [B, .cells 0 ((incs Q is).flatMap intE)] :: σ)
  | 0, k, hi => by
    refine WL_step e_lease_Split_l28 ?_
    have g1 : ¬ k < is.length := by omega
    have g2 : is.take k = is := List.take_of_length_le (by omega)
    rw [g2]
    simp [-List.length_flatMap, -List.map_take, e_lease_Split_r0, e_lease_Split_r1, e_lease_Split_r2, e_lease_Split_r3, e_lease_Split_r4, e_lease_Split_r5, e_lease_Split_r6, e_lease_Split_r7, e_lease_Split_r8, e_lease_Split_r9, e_lease_Split_r10, e_lease_Split_r11, e_lease_Split_r12, e_lease_Split_r13, e_lease_Split_r14, e_lease_Split_r16, e_lease_Split_r17, e_lease_Split_r18, e_lease_Split_r19, e_lease_Split_r20, e_lease_Split_r21, e_lease_Split_r23, e_lease_Split_r24, e_lease_Split_r25, e_lease_Split_r26, e_lease_Split_r27, e_lease_Split_r29, g1]
  | m + 1, k, hi => by
    refine WL_step e_lease_Split_l28 ?_
    have g1 : k < is.length := by omega
    obtain ⟨i, hx⟩ : ∃ x, is[k]? = some x := ⟨_, List.getElem?_eq_getElem g1⟩
    have hib := his i (List.mem_of_getElem? hx)
    have a1 := nat_at hx
    have hl := incs_len (is.take k) Q
    have hb := incs_bd (is.take k) Q 1000000000000 hq
    have hkl : (is.take k).length ≤ 8 := by simp; omega
    have ih := L_Split3 hQ hn hq his hil (B := B) m (k + 1) (by omega)
    rw [incs_take hx] at ih
    generalize incs Q (is.take k) = R at *
    have g3 : i < R.length := by omega
    obtain ⟨r, hr⟩ : ∃ x, R[i]? = some x := ⟨_, List.getElem?_eq_getElem g3⟩
    have hrb := hb r (List.mem_of_getElem? hr)
    have b1 := int_at hr
    have b2 := int_drop hr
    have b3 := int_set (l := R) (i := i) (x := r + 1) g3
    have b4 := int_len R
    have b5 : incAt R i = R.set i (r + 1) := by unfold incAt; rw [getD_of hr]
    have w1 := wnext g1 (by omega)
    have w2 := w64 (n := r + 1) (by omega)
    have g4 : i + 1 ≤ R.length := by omega
    have g5 : i + 1 ≤ ws.length := by omega
    simp [-List.length_flatMap, -List.map_take, e_lease_Split_r0, e_lease_Split_r1, e_lease_Split_r2, e_lease_Split_r3, e_lease_Split_r4, e_lease_Split_r5, e_lease_Split_r6, e_lease_Split_r7, e_lease_Split_r8, e_lease_Split_r9, e_lease_Split_r10, e_lease_Split_r11, e_lease_Split_r12, e_lease_Split_r13, e_lease_Split_r14, e_lease_Split_r16, e_lease_Split_r17, e_lease_Split_r18, e_lease_Split_r19, e_lease_Split_r20, e_lease_Split_r21, e_lease_Split_r23, e_lease_Split_r24, e_lease_Split_r25, e_lease_Split_r26, e_lease_Split_r27, e_lease_Split_r29, g1, a1, hib, b1, b2, b3, b4, w1, w2, g3, g4, g5, hl, hQ]
    exact WL.to ih (by simp) (by rw [b5]) fun x e σ hh => hh
theorem nat_take : ∀ (l : List Nat) (k : Nat), (l.flatMap natE).take k = (l.take k).flatMap natE
  | [], k => by simp
  | x :: l, 0 => by simp
  | x :: l, k + 1 => by
    have ih := nat_take l k
    simp at ih ⊢
    exact ih
theorem rankS_len {a : Int} {ws : List Int} (hw : 0 < sumI ws) : ((rankS a ws).length : Int) = restI a ws := by
  have h := rest_ok (a := a) hw
  unfold rankS
  rw [List.length_take, rankL_len]
  omega
theorem rankS_lt {a : Int} {ws : List Int} {i : Nat} (h : i ∈ rankS a ws) : i < ws.length := by
  unfold rankS at h
  exact rankL_lt (List.mem_of_mem_take h)
theorem splitL_len {a : Int} {ws : List Int} : (splitL a ws).length = ws.length := by unfold splitL; rw [incs_len, splitQ_len]
def splD (a : Int) (ws : List Int) : D := if inn a 0 1000000000000 then (if wsOk ws then .tup [.lst ws.length ((splitL a ws).flatMap intE), .int .i64 0] else .tup [.nils, .int .i64 1]) else .tup [.nils, .int .i64 2]
theorem C_Split {a : Int} {ws : List Int} (hl : ws.length ≤ 12) (hσ : σ ≠ []) : lim T (.call false i_lease_Split [.int .i64 a, .lst ws.length (ws.flatMap intE)] σ) = some (.val (splD a ws) σ) := by
  refine call_of T_lease_Split e_lease_Split rfl ?_
  unfold splD
  cases c1 : inn a 0 1000000000000
  · simp [-List.length_flatMap, -List.map_take, e_lease_Split_r0, e_lease_Split_r1, e_lease_Split_r2, e_lease_Split_r3, e_lease_Split_r4, e_lease_Split_r5, e_lease_Split_r6, e_lease_Split_r7, e_lease_Split_r8, e_lease_Split_r9, e_lease_Split_r10, e_lease_Split_r11, e_lease_Split_r12, e_lease_Split_r13, e_lease_Split_r14, e_lease_Split_r16, e_lease_Split_r17, e_lease_Split_r18, e_lease_Split_r19, e_lease_Split_r20, e_lease_Split_r21, e_lease_Split_r23, e_lease_Split_r24, e_lease_Split_r25, e_lease_Split_r26, e_lease_Split_r27, e_lease_Split_r29, D_total, c1]
  cases c2 : inn ws.length 1 8
  · simp [-List.length_flatMap, -List.map_take, e_lease_Split_r0, e_lease_Split_r1, e_lease_Split_r2, e_lease_Split_r3, e_lease_Split_r4, e_lease_Split_r5, e_lease_Split_r6, e_lease_Split_r7, e_lease_Split_r8, e_lease_Split_r9, e_lease_Split_r10, e_lease_Split_r11, e_lease_Split_r12, e_lease_Split_r13, e_lease_Split_r14, e_lease_Split_r16, e_lease_Split_r17, e_lease_Split_r18, e_lease_Split_r19, e_lease_Split_r20, e_lease_Split_r21, e_lease_Split_r23, e_lease_Split_r24, e_lease_Split_r25, e_lease_Split_r26, e_lease_Split_r27, e_lease_Split_r29, D_total, D_within, c1, c2, wsOk]
  have hA := fun σ => D_allint (σ := σ) (l := ws) (p := fun n => inn n 0 1000000000000) (fv := .fn i_lease_total [] []) (by omega) (.fn fun n _ σ => D_total) rfl
  cases c3 : allB ws (fun n => inn n 0 1000000000000)
  · simp [-List.length_flatMap, -List.map_take, e_lease_Split_r0, e_lease_Split_r1, e_lease_Split_r2, e_lease_Split_r3, e_lease_Split_r4, e_lease_Split_r5, e_lease_Split_r6, e_lease_Split_r7, e_lease_Split_r8, e_lease_Split_r9, e_lease_Split_r10, e_lease_Split_r11, e_lease_Split_r12, e_lease_Split_r13, e_lease_Split_r14, e_lease_Split_r16, e_lease_Split_r17, e_lease_Split_r18, e_lease_Split_r19, e_lease_Split_r20, e_lease_Split_r21, e_lease_Split_r23, e_lease_Split_r24, e_lease_Split_r25, e_lease_Split_r26, e_lease_Split_r27, e_lease_Split_r29, D_total, D_within, c1, c2, hA, c3, wsOk]
  have hb : ∀ x ∈ ws, 0 ≤ x ∧ x ≤ 1000000000000 := fun x hx => inn_iff.1 (allB_iff.1 c3 x hx)
  have hS := fun σ => C_sum (σ := σ) (l := ws) (by omega) hb
  have hs0 := sumI_bd (lo := 0) (hi := 1000000000000) hb
  by_cases c4 : sumI ws = 0
  · have c5 : ¬ 0 < sumI ws := by omega
    simp [-List.length_flatMap, -List.map_take, e_lease_Split_r0, e_lease_Split_r1, e_lease_Split_r2, e_lease_Split_r3, e_lease_Split_r4, e_lease_Split_r5, e_lease_Split_r6, e_lease_Split_r7, e_lease_Split_r8, e_lease_Split_r9, e_lease_Split_r10, e_lease_Split_r11, e_lease_Split_r12, e_lease_Split_r13, e_lease_Split_r14, e_lease_Split_r16, e_lease_Split_r17, e_lease_Split_r18, e_lease_Split_r19, e_lease_Split_r20, e_lease_Split_r21, e_lease_Split_r23, e_lease_Split_r24, e_lease_Split_r25, e_lease_Split_r26, e_lease_Split_r27, e_lease_Split_r29, D_total, D_within, c1, c2, hA, c3, hS, c4, wsOk]
  have c5 : 0 < sumI ws := by omega
  have hok : wsOk ws = true := by simp [wsOk, c2, c3, c5]
  have hw := wp_of (inn_iff.1 c1) hok
  have hn1 := hw.n1
  simp [-List.length_flatMap, -List.map_take, e_lease_Split_r0, e_lease_Split_r1, e_lease_Split_r2, e_lease_Split_r3, e_lease_Split_r4, e_lease_Split_r5, e_lease_Split_r6, e_lease_Split_r7, e_lease_Split_r8, e_lease_Split_r9, e_lease_Split_r10, e_lease_Split_r11, e_lease_Split_r12, e_lease_Split_r13, e_lease_Split_r14, e_lease_Split_r16, e_lease_Split_r17, e_lease_Split_r18, e_lease_Split_r19, e_lease_Split_r20, e_lease_Split_r21, e_lease_Split_r23, e_lease_Split_r24, e_lease_Split_r25, e_lease_Split_r26, e_lease_Split_r27, e_lease_Split_r29, D_total, D_within, c1, c2, hA, c3, hS, c4, hok]
  refine WL.to (L_Split1 (σ := σ) hw ws.length 0 0 (by omega)) (by simp [sumI]) (by simp) ?_
  rintro x e σ' ⟨rfl, g1, g7, g8, rfl⟩
  have hz := k_frz (f := ptE a (sumI ws)) (w := 2) (fun _ => rfl) (fun x => by simp) (l := ws) (j := 0) (v := 0 + ws.length) (bs := [.cells (0 + ws.length) (ws.flatMap (ptE a (sumI ws)))]) hσ rfl
  have r1 : (ws.length : Int) * 8 ≤ (room : Int) := by unfold room; omega
  have z1 := mk_zero ws.length
  simp only [Nat.zero_add] at hz g7
  simp [-List.length_flatMap, -List.map_take, e_lease_Split_r16, e_lease_Split_r17, g1, g7, g8, hz, r1, z1]
  refine WL.to (L_Split2 (σ := σ) hw (B := .dead) ws.length 0 (by omega)) (by simp) (by simp [mix_zero]) ?_
  rintro x e σ' ⟨rfl, g7, g8, g12, rfl⟩
  have hR := fun σ (hσ : σ ≠ []) => C_ranked (σ := σ) (a := a) (W := sumI ws) hw.n0 hl hσ
  have hro := rest_ok (a := a) hw.s0
  have hrl := rankS_len (a := a) hw.s0
  have ht := nat_take (rankL (splitR a (sumI ws) ws) ws.length) (rankS a ws).length
  have ht2 : (rankL (splitR a (sumI ws) ws) ws.length).take (rankS a ws).length = rankS a ws := by
    unfold rankS at hrl ⊢
    rw [show (rankL (splitR a (sumI ws) ws) ws.length).take ((rankL (splitR a (sumI ws) ws) ws.length).take (restI a ws).toNat).length = _ from by rw [show ((rankL (splitR a (sumI ws) ws) ws.length).take (restI a ws).toNat).length = (restI a ws).toNat by omega]]
  rw [ht2] at ht
  rw [← hrl] at g8 hro
  have hr2 : (rankS a ws).length ≤ ws.length := by omega
  simp [-List.length_flatMap, -List.map_take, e_lease_Split_r23, g7, g8, g12, hR, hr2, ht]
  refine WL.to (L_Split3 (σ := σ) (ws := ws) (Q := splitQ a (sumI ws) ws) (is := rankS a ws) splitQ_len hn1 (restJ_bd hw 0).2.2 (fun i hi => rankS_lt hi) (by omega) (B := .dead) (rankS a ws).length 0 (by omega)) (by simp) (by simp [incs]) ?_
  rintro x e σ' ⟨rfl, g12, rfl⟩
  simp [-List.length_flatMap, -List.map_take, e_lease_Split_r29, g12]
  rw [frz_tup (by simp) (by omega)]
  simp only [frzL_cons, frzL_nil]
  have ho := out_at (σ := σ) (n := 15) (f := intE) (w := 1) (by decide) (fun _ => rfl) (fun x => by simp) (l := splitL a ws) (j := 1) (v := 0) (bs := [.dead, .cells 0 ((splitL a ws).flatMap intE)]) hσ rfl
  rw [splitL_len] at ho
  have he : incs (splitQ a (sumI ws) ws) (rankS a ws) = splitL a ws := rfl
  rw [he, ho]
  simp [hok]
end Go.Proofs.YtcccafphhmcifaaGreat
