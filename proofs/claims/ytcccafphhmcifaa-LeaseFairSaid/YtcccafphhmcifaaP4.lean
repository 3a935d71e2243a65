/-
  An amount in parts, layer 11: by the document's words.
-/
import Derived.Test.YtcccafphhmcifaaP3
set_option linter.unusedVariables false
set_option linter.unusedSimpArgs false
namespace Go.Proofs.Ytcccafphhmcifaa
open Go Go.Abs Go.Lease
variable {σ : Stack}

@[simp] def boolE (b : Bool) : List D := [.bool b]
@[simp] theorem cb {l : List Bool} : D.cleanL (l.flatMap boolE) = true := k_clean (fun x => by simp) _
def usedL (n : Nat) (us : List Nat) : List Bool := (List.range n).map fun i => decide (i ∈ us)
theorem used_len {n : Nat} {us : List Nat} : (usedL n us).length = n := by simp [usedL]
theorem used_get {n i : Nat} {us : List Nat} (h : i < n) : (usedL n us)[i]? = some (decide (i ∈ us)) := by simp [usedL, h]
theorem used_set {n x : Nat} {us : List Nat} (h : x < n) : (usedL n us).set x true = usedL n (us ++ [x]) := by
  apply List.ext_getElem
  · simp [usedL]
  · intro i h1 h2
    simp only [List.getElem_set, usedL, List.getElem_map, List.getElem_range, List.mem_append, List.mem_singleton]
    by_cases hx : x = i
    · subst hx; simp
    · have : ¬ i = x := fun h => hx h.symm
      simp [hx, this]
theorem bool_drop {l : List Bool} {i : Nat} {x : Bool} (hx : l[i]? = some x) : (l.flatMap boolE).drop i = .bool x :: (l.flatMap boolE).drop (i + 1) := by
  have := k_drop (f := boolE) (w := 1) (fun _ => rfl) hx
  simpa using this
theorem bool_len (l : List Bool) : (l.flatMap boolE).length = l.length := by
  have := flat_len (f := boolE) (w := 1) (fun _ => rfl) l
  simpa using this
theorem bool_set {l : List Bool} {i : Nat} {x : Bool} (hi : i < l.length) : (l.flatMap boolE).take i ++ .bool x :: (l.flatMap boolE).drop (i + 1) = (l.set i x).flatMap boolE := by
  have := k_set (f := boolE) (w := 1) (l := l) (i := i) (x := x) (fun _ => rfl) hi
  simpa using this
theorem mk_false (n : Nat) : ((List.range n).flatMap fun _ => [D.bool false]) = (usedL n []).flatMap boolE := by
  unfold usedL
  rw [List.flatMap_map]
  simp
theorem L_RS1 {a : Int} {ws : List Int} (h : WP a ws) : ∀ (m i : Nat), i + m = ws.length →
    WL T [0, 1, 5, 6] false f_ref11_Split_l6 [(0, .int .i64 a), (1, .lst ws.length (ws.flatMap intE)), (5, .int .i64 (sumI (ws.take i))), (6, .int .i64 i)] σ
      (fun x e σ' => σ' = σ ∧ x = .exit 0 ∧ get e 0 = .int .i64 a ∧ get e 1 = .lst ws.length (ws.flatMap intE) ∧ get e 5 = .int .i64 (sumI ws))
  | 0, i, hi => by
    refine WL_step e_ref11_Split_l6 ?_
    have h1 : ¬ i < ws.length := by omega
    have h2 : ws.take i = ws := List.take_of_length_le (by omega)
    rw [h2]
    simp [-List.length_flatMap, -List.map_take, e_ref11_Split_r0, e_ref11_Split_r1, e_ref11_Split_r2, e_ref11_Split_r3, e_ref11_Split_r4, e_ref11_Split_r5, e_ref11_Split_r7, e_ref11_Split_r8, e_ref11_Split_r9, e_ref11_Split_r10, e_ref11_Split_r11, e_ref11_Split_r12, e_ref11_Split_r13, e_ref11_Split_r14, e_ref11_Split_r16, e_ref11_Split_r17, e_ref11_Split_r18, e_ref11_Split_r19, e_ref11_Split_r20, e_ref11_Split_r21, e_ref11_Split_r22, e_ref11_Split_r23, e_ref11_Split_r25, e_ref11_Split_r26, e_ref11_Split_r27, e_ref11_Split_r29, h1]
  | m + 1, i, hi => by
    refine WL_step e_ref11_Split_l6 ?_
    have hn := h.n1
    have h1 : i < ws.length := by omega
    obtain ⟨x, hx⟩ : ∃ x, ws[i]? = some x := ⟨_, List.getElem?_eq_getElem h1⟩
    have hs : sumI (ws.take (i + 1)) = sumI (ws.take i) + x := by rw [List.take_add_one, hx, sumI_app]; simp [sumI]
    have hM : ∀ y ∈ ws, 0 ≤ y ∧ y ≤ 8000000000000 := fun y hy => by have := h.w y hy; have := h.s1; omega
    have hb := sumI_bd (lo := 0) (hi := 8000000000000) (l := ws.take i) fun y hy => hM y (List.mem_of_mem_take hy)
    have hxb := hM x (List.mem_of_getElem? hx)
    have hl : (ws.take i).length ≤ 8 := by simp; omega
    have a1 := int_at hx
    have w1 := wnext h1 (by omega)
    have w2 := w64 (n := sumI (ws.take i) + x) (by omega)
    have ih := L_RS1 h m (i + 1) (by omega)
    simp [-List.length_flatMap, -List.map_take, e_ref11_Split_r0, e_ref11_Split_r1, e_ref11_Split_r2, e_ref11_Split_r3, e_ref11_Split_r4, e_ref11_Split_r5, e_ref11_Split_r7, e_ref11_Split_r8, e_ref11_Split_r9, e_ref11_Split_r10, e_ref11_Split_r11, e_ref11_Split_r12, e_ref11_Split_r13, e_ref11_Split_r14, e_ref11_Split_r16, e_ref11_Split_r17, e_ref11_Split_r18, e_ref11_Split_r19, e_ref11_Split_r20, e_ref11_Split_r21, e_ref11_Split_r22, e_ref11_Split_r23, e_ref11_Split_r25, e_ref11_Split_r26, e_ref11_Split_r27, e_ref11_Split_r29, h1, a1, w1, w2]
    exact WL.to ih (by simp [hs]) rfl fun x e σ hh => hh
theorem L_RS2 {a : Int} {ws : List Int} (h : WP a ws) : ∀ (m j v w : Nat), j + m = ws.length →
    WL T [0, 1, 5, 7, 8, 9, 10] false f_ref11_Split_l15 [(0, .int .i64 a), (1, .lst ws.length (ws.flatMap intE)), (5, .int .i64 (sumI ws)), (7, .sl σ.length 0 v 0 j 1), (8, .sl σ.length 1 w 0 j 1), (9, .int .i64 (a - sumI ((splitQ a (sumI ws) ws).take j))), (10, .int .i64 j)]
      ([.cells v (((splitQ a (sumI ws) ws).take j).flatMap intE), .cells w (((splitR a (sumI ws) ws).take j).flatMap intE)] :: σ)
      (fun x e σ' => x = .exit 2 ∧ get e 1 = .lst ws.length (ws.flatMap intE) ∧ get e 7 = .sl σ.length 0 (v + m) 0 ws.length 1 ∧ get e 8 = .sl σ.length 1 (w + m) 0 ws.length 1 ∧ get e 9 = .int .i64 (restI a ws) ∧ σ' = [.cells (v + m) ((splitQ a (sumI ws) ws).flatMap intE), .cells (w + m) ((splitR a (sumI ws) ws).flatMap intE)] :: σ)
  | 0, j, v, w, hi => by
    refine WL_step e_ref11_Split_l15 ?_
    have g1 : ¬ j < ws.length := by omega
    have g3 : (splitQ a (sumI ws) ws).take j = splitQ a (sumI ws) ws := List.take_of_length_le (by rw [splitQ_len]; omega)
    have g5 : (splitR a (sumI ws) ws).take j = splitR a (sumI ws) ws := List.take_of_length_le (by simp [splitR]; omega)
    have g4 : j = ws.length := by omega
    rw [g3, g5, g4]
    simp [-List.length_flatMap, -List.map_take, e_ref11_Split_r0, e_ref11_Split_r1, e_ref11_Split_r2, e_ref11_Split_r3, e_ref11_Split_r4, e_ref11_Split_r5, e_ref11_Split_r7, e_ref11_Split_r8, e_ref11_Split_r9, e_ref11_Split_r10, e_ref11_Split_r11, e_ref11_Split_r12, e_ref11_Split_r13, e_ref11_Split_r14, e_ref11_Split_r16, e_ref11_Split_r17, e_ref11_Split_r18, e_ref11_Split_r19, e_ref11_Split_r20, e_ref11_Split_r21, e_ref11_Split_r22, e_ref11_Split_r23, e_ref11_Split_r25, e_ref11_Split_r26, e_ref11_Split_r27, e_ref11_Split_r29, restI]
  | m + 1, j, v, w, hi => by
    refine WL_step e_ref11_Split_l15 ?_
    have hn := h.n1
    have g1 : j < ws.length := by omega
    obtain ⟨x, hx⟩ : ∃ x, ws[j]? = some x := ⟨_, List.getElem?_eq_getElem g1⟩
    have hwb := h.w x (List.mem_of_getElem? hx)
    have hC := fun σ => C_partR (σ := σ) ⟨h.a0, h.a1⟩ hwb h.s0 (by have := h.s1; omega)
    have a1 := int_at hx
    have q1 := splitQ_get (a := a) (W := sumI ws) hx
    have q2 : (splitR a (sumI ws) ws)[j]? = some (a * x % sumI ws) := by simp [splitR, hx]
    have b4 := flat_snoc (f := intE) q1
    have c4 := flat_snoc (f := intE) q2
    have b5 := int_len ((splitQ a (sumI ws) ws).take j)
    have c5 := int_len ((splitR a (sumI ws) ws).take j)
    have b8 : min j ws.length = j := by omega
    have l1 : (splitR a (sumI ws) ws).length = ws.length := by simp [splitR]
    rw [List.length_take, splitQ_len, b8] at b5
    rw [List.length_take, l1, b8] at c5
    have b3 : (((splitQ a (sumI ws) ws).take j).flatMap intE).take j = ((splitQ a (sumI ws) ws).take j).flatMap intE := List.take_of_length_le (by omega)
    have c3 : (((splitR a (sumI ws) ws).take j).flatMap intE).take j = ((splitR a (sumI ws) ws).take j).flatMap intE := List.take_of_length_le (by omega)
    have b7 : (j + 1) * 8 ≤ room := by unfold room; omega
    have w1 := wnext g1 (by omega)
    have hs : sumI ((splitQ a (sumI ws) ws).take (j + 1)) = sumI ((splitQ a (sumI ws) ws).take j) + a * x / sumI ws := by
      rw [List.take_add_one, q1, sumI_app]; simp [sumI]
    have r1 := restJ_bd h j
    have r2 := restJ_bd h (j + 1)
    have w2 := w64 (n := a - sumI ((splitQ a (sumI ws) ws).take j) - a * x / sumI ws) (by omega)
    have ih := L_RS2 h m (j + 1) (v + 1) (w + 1) (by omega)
    rw [← b4, ← c4] at ih
    simp [-List.length_flatMap, -List.map_take, e_ref11_Split_r0, e_ref11_Split_r1, e_ref11_Split_r2, e_ref11_Split_r3, e_ref11_Split_r4, e_ref11_Split_r5, e_ref11_Split_r7, e_ref11_Split_r8, e_ref11_Split_r9, e_ref11_Split_r10, e_ref11_Split_r11, e_ref11_Split_r12, e_ref11_Split_r13, e_ref11_Split_r14, e_ref11_Split_r16, e_ref11_Split_r17, e_ref11_Split_r18, e_ref11_Split_r19, e_ref11_Split_r20, e_ref11_Split_r21, e_ref11_Split_r22, e_ref11_Split_r23, e_ref11_Split_r25, e_ref11_Split_r26, e_ref11_Split_r27, e_ref11_Split_r29, g1, a1, hC, b3, b5, b7, c3, c5, w1, w2]
    refine WL.to ih (by simp [hs]; omega) (by simp) fun x e σ hh => by simpa [Nat.add_assoc, Nat.add_comm 1 m] using hh
theorem key_get {ks : List Int} {i : Nat} {x : Int} (h : ks[i]? = some x) : keyN ks i = x := by unfold keyN; rw [List.getD_eq_getElem?_getD, h]; rfl
theorem L_RS3 {n : Nat} (hn : n ≤ 8) {ks : List Int} (hks : ks.length = n) {us : List Nat} {d1 d7 d9 : D} (hlen : lenD d1 = some (.int .i64 n)) (c1 : d1.calm = d1) (c1' : d1.strip = d1) (s7 : d7.calm = d7) (s9 : d9.calm = d9) {B : Blk} {w : Nat} : ∀ (m i : Nat) (best : Int), i + m = n → (best = -1 ∨ (0 ≤ best ∧ best < n)) →
    WL T [1, 7, 8, 9, 13, 14, 15] false f_ref11_Split_l24 [(1, d1), (7, d7), (8, .sl σ.length 1 w 0 n 1), (9, d9), (13, .sl σ.length 2 0 0 n 1), (14, .int .i64 best), (15, .int .i64 i)] ([B, .cells w (ks.flatMap intE), .cells 0 ((usedL n us).flatMap boolE)] :: σ)
      (fun x e σ' => x = .exit 6 ∧ get e 1 = d1 ∧ get e 7 = d7 ∧ get e 8 = .sl σ.length 1 w 0 n 1 ∧ get e 9 = d9 ∧ get e 13 = .sl σ.length 2 0 0 n 1 ∧ get e 14 = .int .i64 (bestU ks us m i best) ∧ σ' = [B, .cells w (ks.flatMap intE), .cells 0 ((usedL n us).flatMap boolE)] :: σ)
  | 0, i, best, hi, hb => by
    refine WL_step e_ref11_Split_l24 ?_
    have g1 : ¬ i < n := by omega
    simp [-List.length_flatMap, -List.map_take, e_ref11_Split_r0, e_ref11_Split_r1, e_ref11_Split_r2, e_ref11_Split_r3, e_ref11_Split_r4, e_ref11_Split_r5, e_ref11_Split_r7, e_ref11_Split_r8, e_ref11_Split_r9, e_ref11_Split_r10, e_ref11_Split_r11, e_ref11_Split_r12, e_ref11_Split_r13, e_ref11_Split_r14, e_ref11_Split_r16, e_ref11_Split_r17, e_ref11_Split_r18, e_ref11_Split_r19, e_ref11_Split_r20, e_ref11_Split_r21, e_ref11_Split_r22, e_ref11_Split_r23, e_ref11_Split_r25, e_ref11_Split_r26, e_ref11_Split_r27, e_ref11_Split_r29, hlen, c1, c1', g1, s7, s9, bestU]
  | m + 1, i, best, hi, hb => by
    refine WL_step e_ref11_Split_l24 ?_
    have g1 : i < n := by omega
    have u1 := bool_drop (used_get (us := us) g1)
    obtain ⟨x, hx⟩ : ∃ x, ks[i]? = some x := ⟨_, List.getElem?_eq_getElem (show i < ks.length by omega)⟩
    have k1 := int_drop hx
    have k2 := key_get hx
    have w1 := wnext g1 (by omega)
    have ih := L_RS3 hn hks (us := us) hlen c1 c1' s7 s9 (B := B) (w := w) m (i + 1) (if i ∉ us ∧ (best < 0 ∨ keyN ks best.toNat < keyN ks i) then (i : Int) else best) (by omega) (by split <;> omega)
    by_cases hu : i ∈ us
    · have hne : ¬ (i ∉ us ∧ (best < 0 ∨ keyN ks best.toNat < keyN ks i)) := fun h => h.1 hu
      rw [if_neg hne] at ih
      simp [-List.length_flatMap, -List.map_take, e_ref11_Split_r0, e_ref11_Split_r1, e_ref11_Split_r2, e_ref11_Split_r3, e_ref11_Split_r4, e_ref11_Split_r5, e_ref11_Split_r7, e_ref11_Split_r8, e_ref11_Split_r9, e_ref11_Split_r10, e_ref11_Split_r11, e_ref11_Split_r12, e_ref11_Split_r13, e_ref11_Split_r14, e_ref11_Split_r16, e_ref11_Split_r17, e_ref11_Split_r18, e_ref11_Split_r19, e_ref11_Split_r20, e_ref11_Split_r21, e_ref11_Split_r22, e_ref11_Split_r23, e_ref11_Split_r25, e_ref11_Split_r26, e_ref11_Split_r27, e_ref11_Split_r29, hlen, c1, c1', g1, s7, s9, u1, hu, w1]
      exact WL.to ih (by simp) rfl fun x e σ hh => by simpa [bestU, hu] using hh
    · rcases hb with rfl | ⟨hb0, hb1⟩
      · rw [if_pos ⟨hu, .inl (by omega)⟩] at ih
        simp [-List.length_flatMap, -List.map_take, e_ref11_Split_r0, e_ref11_Split_r1, e_ref11_Split_r2, e_ref11_Split_r3, e_ref11_Split_r4, e_ref11_Split_r5, e_ref11_Split_r7, e_ref11_Split_r8, e_ref11_Split_r9, e_ref11_Split_r10, e_ref11_Split_r11, e_ref11_Split_r12, e_ref11_Split_r13, e_ref11_Split_r14, e_ref11_Split_r16, e_ref11_Split_r17, e_ref11_Split_r18, e_ref11_Split_r19, e_ref11_Split_r20, e_ref11_Split_r21, e_ref11_Split_r22, e_ref11_Split_r23, e_ref11_Split_r25, e_ref11_Split_r26, e_ref11_Split_r27, e_ref11_Split_r29, hlen, c1, c1', g1, s7, s9, u1, hu, w1]
        exact WL.to ih (by simp) rfl fun x e σ hh => by simpa [bestU, hu] using hh
      · obtain ⟨b, rfl⟩ : ∃ b : Nat, best = b := ⟨best.toNat, by omega⟩
        have hbn : b < n := by omega
        obtain ⟨y, hy⟩ : ∃ x, ks[b]? = some x := ⟨_, List.getElem?_eq_getElem (show b < ks.length by omega)⟩
        have k3 := int_drop hy
        have k4 := key_get hy
        have hnb : ¬ ((b : Int) < 0) := by omega
        rw [Int.toNat_natCast, k2, k4] at ih
        by_cases hk : y < x
        · rw [if_pos ⟨hu, .inr hk⟩] at ih
          simp [-List.length_flatMap, -List.map_take, e_ref11_Split_r0, e_ref11_Split_r1, e_ref11_Split_r2, e_ref11_Split_r3, e_ref11_Split_r4, e_ref11_Split_r5, e_ref11_Split_r7, e_ref11_Split_r8, e_ref11_Split_r9, e_ref11_Split_r10, e_ref11_Split_r11, e_ref11_Split_r12, e_ref11_Split_r13, e_ref11_Split_r14, e_ref11_Split_r16, e_ref11_Split_r17, e_ref11_Split_r18, e_ref11_Split_r19, e_ref11_Split_r20, e_ref11_Split_r21, e_ref11_Split_r22, e_ref11_Split_r23, e_ref11_Split_r25, e_ref11_Split_r26, e_ref11_Split_r27, e_ref11_Split_r29, hlen, c1, c1', g1, hbn, hnb, s7, s9, u1, hu, k1, k3, hk, w1]
          exact WL.to ih (by simp) rfl fun x e σ hh => by simpa [bestU, hu, k2, k4, hk, hnb] using hh
        · rw [if_neg (by rintro ⟨_, h | h⟩ <;> omega)] at ih
          simp [-List.length_flatMap, -List.map_take, e_ref11_Split_r0, e_ref11_Split_r1, e_ref11_Split_r2, e_ref11_Split_r3, e_ref11_Split_r4, e_ref11_Split_r5, e_ref11_Split_r7, e_ref11_Split_r8, e_ref11_Split_r9, e_ref11_Split_r10, e_ref11_Split_r11, e_ref11_Split_r12, e_ref11_Split_r13, e_ref11_Split_r14, e_ref11_Split_r16, e_ref11_Split_r17, e_ref11_Split_r18, e_ref11_Split_r19, e_ref11_Split_r20, e_ref11_Split_r21, e_ref11_Split_r22, e_ref11_Split_r23, e_ref11_Split_r25, e_ref11_Split_r26, e_ref11_Split_r27, e_ref11_Split_r29, hlen, c1, c1', g1, hbn, hnb, s7, s9, u1, hu, k1, k3, hk, w1]
          exact WL.to ih (by simp) rfl fun x e σ hh => by simpa [bestU, hu, k2, k4, hk, hnb] using hh
theorem L_RS4 {a : Int} {ws : List Int} (h : WP a ws) {v w : Nat} : ∀ (m k : Nat), k + m = (rankS a ws).length →
    WL T [1, 7, 8, 9, 13] false f_ref11_Split_l28 [(1, .lst ws.length (ws.flatMap intE)), (7, .sl σ.length 0 v 0 ws.length 1), (8, .sl σ.length 1 w 0 ws.length 1), (9, .int .i64 m), (13, .sl σ.length 2 0 0 ws.length 1)]
      ([.cells v ((incs (splitQ a (sumI ws) ws) ((rankS a ws).take k)).flatMap intE), .cells w ((splitR a (sumI ws) ws).flatMap intE), .cells 0 ((usedL ws.length ((rankS a ws).take k)).flatMap boolE)] :: σ)
      (fun x e σ' => x = .exit 4 ∧ get e 7 = .sl σ.length 0 v 0 ws.length 1 ∧ ∃ B C, σ' = [.cells v ((splitL a ws).flatMap intE), B, C] :: σ)
  | 0, k, hi => by
    refine WL_step e_ref11_Split_l28 ?_
    have g2 : (rankS a ws).take k = rankS a ws := List.take_of_length_le (by omega)
    have he : incs (splitQ a (sumI ws) ws) (rankS a ws) = splitL a ws := rfl
    rw [g2, he]
    simp [-List.length_flatMap, -List.map_take, e_ref11_Split_r0, e_ref11_Split_r1, e_ref11_Split_r2, e_ref11_Split_r3, e_ref11_Split_r4, e_ref11_Split_r5, e_ref11_Split_r7, e_ref11_Split_r8, e_ref11_Split_r9, e_ref11_Split_r10, e_ref11_Split_r11, e_ref11_Split_r12, e_ref11_Split_r13, e_ref11_Split_r14, e_ref11_Split_r16, e_ref11_Split_r17, e_ref11_Split_r18, e_ref11_Split_r19, e_ref11_Split_r20, e_ref11_Split_r21, e_ref11_Split_r22, e_ref11_Split_r23, e_ref11_Split_r25, e_ref11_Split_r26, e_ref11_Split_r27, e_ref11_Split_r29]
  | m + 1, k, hi => by
    refine WL_step e_ref11_Split_l28 ?_
    have hn := h.n1
    have g1 : k < (rankS a ws).length := by omega
    obtain ⟨x, hx⟩ : ∃ x, (rankS a ws)[k]? = some x := ⟨_, List.getElem?_eq_getElem g1⟩
    have hxl := rankS_lt (List.mem_of_getElem? hx)
    have hrl := rankS_len (a := a) h.s0
    have hro := rest_ok (a := a) h.s0
    have hx' : (rankL (splitR a (sumI ws) ws) ws.length)[k]? = some x := by
      unfold rankS at hx
      rw [List.getElem?_take_of_lt (by omega)] at hx
      exact hx
    have htk : (rankS a ws).take k = (rankL (splitR a (sumI ws) ws) ws.length).take k := by
      unfold rankS
      rw [List.take_take, show min k (restI a ws).toNat = k by omega]
    have hbest := best_rank hx'
    rw [← htk] at hbest
    have l1 : (splitR a (sumI ws) ws).length = ws.length := by simp [splitR]
    have p1 : (0 : Int) < (m : Int) + 1 := by omega
    have us := used_set (n := ws.length) (us := (rankS a ws).take k) hxl
    have ue : (rankS a ws).take k ++ [x] = (rankS a ws).take (k + 1) := by rw [List.take_add_one, hx]; rfl
    rw [ue] at us
    have ih := L_RS4 h (v := v) (w := w) m (k + 1) (by omega)
    rw [incs_take hx] at ih
    have hl := incs_len ((rankS a ws).take k) (splitQ a (sumI ws) ws)
    have hb := incs_bd ((rankS a ws).take k) (splitQ a (sumI ws) ws) 1000000000000 (restJ_bd h 0).2.2
    have hkl : ((rankS a ws).take k).length ≤ 8 := by simp; omega
    rw [splitQ_len] at hl
    simp [-List.length_flatMap, -List.map_take, e_ref11_Split_r0, e_ref11_Split_r1, e_ref11_Split_r2, e_ref11_Split_r3, e_ref11_Split_r4, e_ref11_Split_r5, e_ref11_Split_r7, e_ref11_Split_r8, e_ref11_Split_r9, e_ref11_Split_r10, e_ref11_Split_r11, e_ref11_Split_r12, e_ref11_Split_r13, e_ref11_Split_r14, e_ref11_Split_r16, e_ref11_Split_r17, e_ref11_Split_r18, e_ref11_Split_r19, e_ref11_Split_r20, e_ref11_Split_r21, e_ref11_Split_r22, e_ref11_Split_r23, e_ref11_Split_r25, e_ref11_Split_r26, e_ref11_Split_r27, e_ref11_Split_r29, p1]
    refine WL.to (L_RS3 (σ := σ) (n := ws.length) hn l1 (us := (rankS a ws).take k) (d1 := .lst ws.length (ws.flatMap intE)) (by simp) rfl (by simp) (d7 := .sl σ.length 0 v 0 ws.length 1) (d9 := .int .i64 ((m : Int) + 1)) rfl rfl (B := .cells v ((incs (splitQ a (sumI ws) ws) ((rankS a ws).take k)).flatMap intE)) (w := w) ws.length 0 (-1) (by omega) (.inl rfl)) (by simp) rfl ?_
    rintro x' e σ' ⟨rfl, q1, q7, q8, q9, q13, q14, rfl⟩
    rw [hbest] at q14
    generalize incs (splitQ a (sumI ws) ws) ((rankS a ws).take k) = R at *
    have g3 : x < R.length := by omega
    obtain ⟨r, hr⟩ : ∃ y, R[x]? = some y := ⟨_, List.getElem?_eq_getElem g3⟩
    have hrb := hb r (List.mem_of_getElem? hr)
    have b2 := int_drop hr
    have b3 := int_set (l := R) (i := x) (x := r + 1) g3
    have b4 := int_len R
    have b5 : incAt R x = R.set x (r + 1) := by unfold incAt; rw [getD_of hr]
    have c3 := bool_set (l := usedL ws.length ((rankS a ws).take k)) (i := x) (x := true) (by rw [used_len]; exact hxl)
    rw [us] at c3
    have c4 := bool_len (usedL ws.length ((rankS a ws).take k))
    rw [used_len] at c4
    have w1 := w64 (n := r + 1) (by omega)
    have w2 : IntKind.i64.wrap ((m : Int) + 1 - 1) = m := by rw [show (m : Int) + 1 - 1 = m by omega]; exact w64 (by omega)
    have w3 := w64 (n := (m : Int)) (by omega)
    have g4 : x + 1 ≤ ws.length := by omega
    have g5 : x + 1 ≤ R.length := by omega
    simp [-List.length_flatMap, -List.map_take, e_ref11_Split_r25, e_ref11_Split_r26, e_ref11_Split_r27, q1, q7, q8, q9, q13, q14, hxl, b2, b3, b4, c3, c4, w1, w2, w3, g4, g5, hl]
    exact WL.to ih (by simp) (by rw [b5]) fun x e σ hh => hh
theorem C_RSplit {a : Int} {ws : List Int} (h : WP a ws) (hσ : σ ≠ []) : lim T (.call false i_ref11_Split [.int .i64 a, .lst ws.length (ws.flatMap intE)] σ) = some (.val (.lst ws.length ((splitL a ws).flatMap intE)) σ) := by
  refine call_of T_ref11_Split e_ref11_Split rfl ?_
  have hn1 := h.n1
  simp [-List.length_flatMap, -List.map_take, e_ref11_Split_r0, e_ref11_Split_r1, e_ref11_Split_r2, e_ref11_Split_r3, e_ref11_Split_r4, e_ref11_Split_r5, e_ref11_Split_r7, e_ref11_Split_r8, e_ref11_Split_r9, e_ref11_Split_r10, e_ref11_Split_r11, e_ref11_Split_r12, e_ref11_Split_r13, e_ref11_Split_r14, e_ref11_Split_r16, e_ref11_Split_r17, e_ref11_Split_r18, e_ref11_Split_r19, e_ref11_Split_r20, e_ref11_Split_r21, e_ref11_Split_r22, e_ref11_Split_r23, e_ref11_Split_r25, e_ref11_Split_r26, e_ref11_Split_r27, e_ref11_Split_r29]
  refine WL.to (L_RS1 (σ := [] :: σ) h ws.length 0 (by omega)) (by simp [sumI]) rfl ?_
  rintro x e σ' ⟨rfl, rfl, g0, g1, g5⟩
  simp [-List.length_flatMap, -List.map_take, e_ref11_Split_r7, e_ref11_Split_r8, e_ref11_Split_r9, g0, g1, g5]
  refine WL.to (L_RS2 (σ := σ) h ws.length 0 0 0 (by omega)) (by simp [sumI]) (by simp) ?_
  rintro x e σ' ⟨rfl, g1, g7, g8, g9, rfl⟩
  have r1 : (ws.length : Int) ≤ (room : Int) := by unfold room; omega
  have z1 := mk_false ws.length
  have hrl := rankS_len (a := a) h.s0
  rw [← hrl] at g9
  simp only [Nat.zero_add] at g7 g8
  simp [-List.length_flatMap, -List.map_take, e_ref11_Split_r16, g1, g7, g8, g9, r1, z1]
  refine WL.to (L_RS4 (σ := σ) h (v := ws.length) (w := ws.length) (rankS a ws).length 0 (by omega)) (by simp) (by simp [incs]) ?_
  rintro x e σ' ⟨rfl, g7, B, C, rfl⟩
  simp [-List.length_flatMap, -List.map_take, e_ref11_Split_r29, g7]
  have ho := out_at (σ := σ) (n := 16) (f := intE) (w := 1) (by decide) (fun _ => rfl) (fun x => by simp) (l := splitL a ws) (j := 0) (v := ws.length) (bs := [.cells ws.length ((splitL a ws).flatMap intE), B, C]) hσ rfl
  rw [splitL_len] at ho
  rw [ho]
  simp
end Go.Proofs.Ytcccafphhmcifaa
