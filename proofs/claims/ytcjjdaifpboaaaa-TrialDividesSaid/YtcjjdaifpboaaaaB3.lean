/-
  The first of the shortest ways, of the program.
-/
import Derived.Test.YtcjjdaifpboaaaaB2
set_option linter.unusedVariables false
set_option linter.unusedSimpArgs false
namespace Go.Proofs.Ytcjjdaifpboaaaa
open Go Go.Abs Go.Trial
variable {σ : Stack}

theorem sgP {F : List Blk} : ∀ {pre : Stack}, seg? (pre ++ F :: σ) σ.length = some F
  | [] => by simp
  | s :: pre => by
    have ih := sgP (F := F) (pre := pre)
    have h : ¬ (pre.length + (σ.length + 1) = σ.length) := by omega
    simp [h, ih]
theorem C_way1 {W k n a : Nat} {F : List Nat} {fr : List Blk} {pre : Stack} (h0 : fr[0]? = some (.cells 0 ((iN F).flatMap intE))) (h1 : fr[1]? = some (.cells 0 [.sl σ.length 0 0 0 W 1])) (hk : fr[k]? = some (.cells 0 [.int .i64 a]))
    (hF : F.length = W) (hn : n < W) (ha : a < W) (hle : ∀ i, i < W → F.getD i 0 ≤ 100) :
    lim T (.call false i_trial_Survey_way_1 [.int .i64 n, .ref σ.length 1 0 0, .ref σ.length k 0 0] (pre ++ fr :: σ)) = some (.val (.bool (wayT F a n)) (pre ++ fr :: σ)) := by
  refine call_of T_trial_Survey_way_1 e_trial_Survey_way_1 rfl ?_
  have x1 := iN_at (some_getD (F := F) (i := a) (by omega))
  have x2 := iN_at (some_getD (F := F) (i := n) (by omega))
  have y1 := hle a ha
  have y2 := hle n hn
  have k1 := @sgP σ fr pre
  have hne : ¬ (pre.length + (σ.length + 1) = σ.length) := by omega
  have w2 := w64 (n := ((F.getD a 0 : Nat) : Int) - 1) (by omega)
  have q : (((F.getD n 0 : Nat) : Int) == ((F.getD a 0 : Nat) : Int) - 1) = wayT F a n := by
    unfold wayT
    rw [Bool.eq_iff_iff]; simp only [beq_iff_eq, decide_eq_true_eq]; omega
  generalize F.getD a 0 = A at *
  generalize F.getD n 0 = N at *
  generalize wayT F a n = p at *
  simp [-List.length_flatMap, -List.map_take, e_trial_Survey_way_1_r0, e_trial_Survey_way_1_r1, k1, hne, h0, h1, hk, x1, x2, hn, ha, w2, q]
theorem L_ixN {l : List Nat} {k1 k2 k n : Nat} {S : Stack} {p : Nat → Bool} (hC : ∀ x ∈ l, lim T (.call false i_trial_Survey_way_1 [.int .i64 x, .ref k1 1 0 0, .ref k1 k2 0 0] S) = some (.val (.bool (p x)) S)) (hl : l.length ≤ 100) (hk : l[k]? = some n) (hp : p n = true) (hj : ∀ j x, j < k → l[j]? = some x → p x = false) : ∀ (m i : Nat), i + m = k →
    WL T [0, 1, 7, 8] false f_slices_IndexFunc_int_l7 [(0, .lst l.length ((iN l).flatMap intE)), (1, .fn i_trial_Survey_way_1 [] [.ref k1 1 0 0, .ref k1 k2 0 0]), (7, .int .i64 l.length), (8, .int .i64 i)] S
      (fun x e σ' => σ' = S ∧ x = .ret ∧ get e 4 = .int .i64 k)
  | 0, i, hi => by
    refine WL_step e_slices_IndexFunc_int_l7 ?_
    obtain rfl : i = k := by omega
    have h1 := (List.getElem?_eq_some_iff.1 hk).1
    have h2 := iN_at hk
    have hc := hC n (List.mem_of_getElem? hk)
    rw [hp] at hc
    simp [-List.length_flatMap, -List.map_take, e_slices_IndexFunc_int_r0, e_slices_IndexFunc_int_r1, e_slices_IndexFunc_int_r2, e_slices_IndexFunc_int_r3, e_slices_IndexFunc_int_r4, e_slices_IndexFunc_int_r5, e_slices_IndexFunc_int_r6, e_slices_IndexFunc_int_r8, h1, h2, hc]
  | m + 1, i, hi => by
    refine WL_step e_slices_IndexFunc_int_l7 ?_
    have hkl := (List.getElem?_eq_some_iff.1 hk).1
    have h1 : i < l.length := by omega
    obtain ⟨x, hx⟩ : ∃ x, l[i]? = some x := ⟨_, List.getElem?_eq_getElem h1⟩
    have h2 := iN_at hx
    have h4 := wnext h1 (by omega)
    have ih := L_ixN hC hl hk hp hj m (i + 1) (by omega)
    have hc := hC x (List.mem_of_getElem? hx)
    rw [hj i x (by omega) hx] at hc
    simp [-List.length_flatMap, -List.map_take, e_slices_IndexFunc_int_r0, e_slices_IndexFunc_int_r1, e_slices_IndexFunc_int_r2, e_slices_IndexFunc_int_r3, e_slices_IndexFunc_int_r4, e_slices_IndexFunc_int_r5, e_slices_IndexFunc_int_r6, e_slices_IndexFunc_int_r8, h1, h2, h4, hc]
    exact WL.to ih (by simp) rfl fun x e σ' hh => hh
theorem C_ixN {l : List Nat} {k1 k2 k n : Nat} {S : Stack} {p : Nat → Bool} (hC : ∀ x ∈ l, lim T (.call false i_trial_Survey_way_1 [.int .i64 x, .ref k1 1 0 0, .ref k1 k2 0 0] ([] :: S)) = some (.val (.bool (p x)) ([] :: S))) (hl : l.length ≤ 100) (hk : l[k]? = some n) (hp : p n = true) (hj : ∀ j x, j < k → l[j]? = some x → p x = false) :
    lim T (.call false i_slices_IndexFunc_int [.lst l.length ((iN l).flatMap intE), .fn i_trial_Survey_way_1 [] [.ref k1 1 0 0, .ref k1 k2 0 0]] S) = some (.val (.int .i64 k) S) := by
  refine call_of T_slices_IndexFunc_int e_slices_IndexFunc_int rfl ?_
  simp [-List.length_flatMap, -List.map_take, e_slices_IndexFunc_int_r0, e_slices_IndexFunc_int_r1, e_slices_IndexFunc_int_r2, e_slices_IndexFunc_int_r3, e_slices_IndexFunc_int_r4, e_slices_IndexFunc_int_r5, e_slices_IndexFunc_int_r6, e_slices_IndexFunc_int_r8]
  refine WL.to (L_ixN hC hl hk hp hj k 0 (by omega)) (by simp) rfl ?_
  rintro x e σ' ⟨rfl, rfl, g4⟩
  simp [g4]

/-- The frame: steps, where they stand, the queue. -/
def wFr (σ : Stack) (W : Nat) (F : List Nat) (vq : Nat) (cs : List D) : List Blk := [.cells 0 ((iN F).flatMap intE), .cells 0 [.sl σ.length 0 0 0 W 1], .cells vq cs]

theorem L_wz {s : Surv} (h : Sv s) {W : Nat} (hW : s.w = W) {a to : Nat} : ∀ (m i : Nat) (F : List Nat), i + m = W → F.length = W → (∀ j, j < i → F[j]? = some W) →
    WL T [1, 2, 3, 7, 19, 20] false f_trial_Survey_way_l7 [(1, .int .i64 a), (2, .int .i64 to), (3, .cref s.enc), (7, .ref σ.length 1 0 0), (19, .int .i64 W), (20, .int .i64 i)] ([.cells 0 ((iN F).flatMap intE), .cells 0 [.sl σ.length 0 0 0 W 1]] :: σ)
      (fun x e σ' => σ' = [.cells 0 ((iN (List.replicate W W)).flatMap intE), .cells 0 [.sl σ.length 0 0 0 W 1]] :: σ ∧ x = .exit 0 ∧ get e 1 = .int .i64 a ∧ get e 2 = .int .i64 to ∧ get e 3 = .cref s.enc ∧ get e 7 = .ref σ.length 1 0 0)
  | 0, i, F, hb, hF, hj => by
    refine WL_step e_trial_Survey_way_l7 ?_
    have h1 : ¬ i < W := by omega
    have h2 : F = List.replicate W W := by
      refine List.eq_replicate_iff.2 ⟨hF, fun x hx => ?_⟩
      obtain ⟨j, hj2⟩ := List.mem_iff_getElem?.1 hx
      have hj1 := (List.getElem?_eq_some_iff.1 hj2).1
      have := hj j (by omega)
      rw [hj2] at this
      exact Option.some.inj this
    subst h2
    simp [-List.length_flatMap, -List.map_take, e_trial_Survey_way_r0, e_trial_Survey_way_r1, e_trial_Survey_way_r2, e_trial_Survey_way_r3, e_trial_Survey_way_r4, e_trial_Survey_way_r5, e_trial_Survey_way_r6, e_trial_Survey_way_r8, e_trial_Survey_way_r9, e_trial_Survey_way_r10, e_trial_Survey_way_r11, e_trial_Survey_way_r12, e_trial_Survey_way_r13, e_trial_Survey_way_r14, e_trial_Survey_way_r15, e_trial_Survey_way_r16, e_trial_Survey_way_r17, e_trial_Survey_way_r19, e_trial_Survey_way_r21, e_trial_Survey_way_r22, e_trial_Survey_way_r23, e_trial_Survey_way_r24, e_trial_Survey_way_r25, e_trial_Survey_way_r26, e_trial_Survey_way_r27, e_trial_Survey_way_r28, e_trial_Survey_way_r30, h1]
  | m + 1, i, F, hb, hF, hj => by
    refine WL_step e_trial_Survey_way_l7 ?_
    have h1 : i < W := by omega
    have hw := h.w
    have w1 := w64 (n := (i : Int) + 1) (by omega)
    have ih := L_wz h hW (a := a) (to := to) m (i + 1) (F.set i W) (by omega) (by simpa using hF) (fun j hj' => by
      by_cases e : i = j
      · subst e; rw [List.getElem?_set_self (by omega)]
      · rw [List.getElem?_set_ne e]; exact hj j (by omega))
    have s1 := iN_set (l := F) (i := i) (x := W) (by omega)
    have b2 : i + 1 ≤ W := by omega
    have a3 := @iN_len F
    rw [hF] at a3
    simp [-List.length_flatMap, -List.map_take, e_trial_Survey_way_r0, e_trial_Survey_way_r1, e_trial_Survey_way_r2, e_trial_Survey_way_r3, e_trial_Survey_way_r4, e_trial_Survey_way_r5, e_trial_Survey_way_r6, e_trial_Survey_way_r8, e_trial_Survey_way_r9, e_trial_Survey_way_r10, e_trial_Survey_way_r11, e_trial_Survey_way_r12, e_trial_Survey_way_r13, e_trial_Survey_way_r14, e_trial_Survey_way_r15, e_trial_Survey_way_r16, e_trial_Survey_way_r17, e_trial_Survey_way_r19, e_trial_Survey_way_r21, e_trial_Survey_way_r22, e_trial_Survey_way_r23, e_trial_Survey_way_r24, e_trial_Survey_way_r25, e_trial_Survey_way_r26, e_trial_Survey_way_r27, e_trial_Survey_way_r28, e_trial_Survey_way_r30, h1, w1, hW, s1, b2, a3]
    exact WL.to ih (by simp [hW]) rfl fun x e σ' hh => by simpa [hW] using hh
theorem q_len {ad : Nat → Nat → Bool} {W to : Nat} {F q : List Nat} (h : BI ad W to F q) : q.length ≤ W := by
  have := nodup_few (m := List.range W) h.nd (fun x hx => by have := (h.qv x hx).1; simpa using this)
  simpa using this
theorem L_w18 {s : Surv} (h : Sv s) {W : Nat} (hW : s.w = W) {a to v d : Nat} {nb : List Nat} (hnb : ∀ w ∈ nb, w < W ∧ adj s v w = true) (hnl : nb.length ≤ 100) : ∀ (m j : Nat) (F q : List Nat) (cs : List D) (off vq : Nat), j + m = nb.length → MI (adj s) W to v d F q →
    cs.drop off = .int .i64 v :: (iN q).flatMap intE → cs.length = off + q.length + 1 →
    WL T [1, 2, 3, 7, 9, 43, 44, 45] false f_trial_Survey_way_l18 [(1, .int .i64 a), (2, .int .i64 to), (3, .cref s.enc), (7, .ref σ.length 1 0 0), (9, .sl σ.length 2 vq off (q.length + 1) 1), (43, .lst nb.length ((iN nb).flatMap intE)), (44, .int .i64 nb.length), (45, .int .i64 j)] (wFr σ W F vq cs :: σ)
      (fun x e σ' => x = .exit 4 ∧ ∃ cs' off' vq' r, r = (nb.drop j).foldl (vis W v) (F, q) ∧ cs'.drop off' = .int .i64 v :: (iN r.2).flatMap intE ∧ cs'.length = off' + r.2.length + 1 ∧ σ' = wFr σ W r.1 vq' cs' :: σ ∧
        get e 1 = .int .i64 a ∧ get e 2 = .int .i64 to ∧ get e 3 = .cref s.enc ∧ get e 7 = .ref σ.length 1 0 0 ∧ get e 9 = .sl σ.length 2 vq' off' (r.2.length + 1) 1)
  | 0, j, F, q, cs, off, vq, hj, hM, c1, c2 => by
    refine WL_step e_trial_Survey_way_l18 ?_
    have h1 : ¬ j < nb.length := by omega
    have h2 : nb.drop j = [] := List.drop_eq_nil_of_le (by omega)
    simp [-List.length_flatMap, -List.map_take, e_trial_Survey_way_r0, e_trial_Survey_way_r1, e_trial_Survey_way_r2, e_trial_Survey_way_r3, e_trial_Survey_way_r4, e_trial_Survey_way_r5, e_trial_Survey_way_r6, e_trial_Survey_way_r8, e_trial_Survey_way_r9, e_trial_Survey_way_r10, e_trial_Survey_way_r11, e_trial_Survey_way_r12, e_trial_Survey_way_r13, e_trial_Survey_way_r14, e_trial_Survey_way_r15, e_trial_Survey_way_r16, e_trial_Survey_way_r17, e_trial_Survey_way_r19, e_trial_Survey_way_r21, e_trial_Survey_way_r22, e_trial_Survey_way_r23, e_trial_Survey_way_r24, e_trial_Survey_way_r25, e_trial_Survey_way_r26, e_trial_Survey_way_r27, e_trial_Survey_way_r28, e_trial_Survey_way_r30, h1, h2]
    exact ⟨cs, off, c1, c2, vq, rfl, rfl, rfl⟩
  | m + 1, j, F, q, cs, off, vq, hj, hM, c1, c2 => by
    refine WL_step e_trial_Survey_way_l18 ?_
    have hw := h.w
    have h1 : j < nb.length := by omega
    obtain ⟨w, hx⟩ : ∃ w, nb[j]? = some w := ⟨_, List.getElem?_eq_getElem h1⟩
    have hwb := hnb w (List.mem_of_getElem? hx)
    have h2 := iN_at hx
    have h4 := wnext h1 (by omega)
    have hv := vis_ok hM hwb.1 hwb.2
    rw [dropS hx, List.foldl_cons]
    have hFl := hM.b.len
    have x1 := iN_at (some_getD (F := F) (i := w) (by rw [hFl]; exact hwb.1))
    have x2 := iN_at (some_getD (F := F) (i := v) (by rw [hFl]; exact hM.cv.1))
    have y2 := hM.b.le v hM.cv.1
    have hwW := hwb.1
    have hvW := hM.cv.1
    have a3 := @iN_len F
    rw [hFl] at a3
    by_cases hc : F.getD w 0 = W
    · have e1 : vis W v (F, q) w = (F.set w (F.getD v 0 + 1), q ++ [w]) := by unfold vis; dsimp only; rw [if_pos hc]
      rw [e1] at hv ⊢
      have hql := q_len hM.b
      have ih := L_w18 h hW (a := a) hnb hnl m (j + 1) (F.set w (F.getD v 0 + 1)) (q ++ [w]) (.int .i64 v :: ((iN q).flatMap intE ++ [.int .i64 w])) 0 (vq + 1) (by omega) hv.1 (by rw [iN_snoc]; rfl) (by simp only [List.length_cons, List.length_append, iN_len, List.length_nil]; omega)
      have w2 : IntKind.i64.wrap (((F.getD v 0 : Nat) : Int) + 1) = ((F.getD v 0 + 1 : Nat) : Int) := by rw [w64 (by omega)]; omega
      have s1 := iN_set (l := F) (i := w) (x := F.getD v 0 + 1) (by rw [hFl]; exact hwb.1)
      rw [hc] at x1
      have h7 : (q.length + 1 + 1) * 8 ≤ room := by unfold room; omega
      have b2 : w + 1 ≤ W := by omega
      have a4 := @iN_all q
      have e2 : (q ++ [w]).length = q.length + 1 := by simp
      rw [e2] at ih
      generalize F.getD v 0 = V at *
      generalize hX : ((V + 1 : Nat) : Int) = X at *
      simp only [wFr] at ih ⊢
      have c3 : off + (q.length + 1) ≤ cs.length := by omega
      simp [-List.length_flatMap, -List.map_take, e_trial_Survey_way_r0, e_trial_Survey_way_r1, e_trial_Survey_way_r2, e_trial_Survey_way_r3, e_trial_Survey_way_r4, e_trial_Survey_way_r5, e_trial_Survey_way_r6, e_trial_Survey_way_r8, e_trial_Survey_way_r9, e_trial_Survey_way_r10, e_trial_Survey_way_r11, e_trial_Survey_way_r12, e_trial_Survey_way_r13, e_trial_Survey_way_r14, e_trial_Survey_way_r15, e_trial_Survey_way_r16, e_trial_Survey_way_r17, e_trial_Survey_way_r19, e_trial_Survey_way_r21, e_trial_Survey_way_r22, e_trial_Survey_way_r23, e_trial_Survey_way_r24, e_trial_Survey_way_r25, e_trial_Survey_way_r26, e_trial_Survey_way_r27, e_trial_Survey_way_r28, e_trial_Survey_way_r30, h1, h2, h4, hwW, hvW, x1, x2, a3, hW, w2, s1, b2, c1, c3, h7, a4]
      exact WL.to ih (by simp [hW]) (by simp) fun x e σ' hh => by simpa [hW] using hh
    · have e1 : vis W v (F, q) w = (F, q) := by unfold vis; dsimp only; rw [if_neg hc]
      rw [e1] at hv ⊢
      have ih := L_w18 h hW (a := a) hnb hnl m (j + 1) F q cs off vq (by omega) hM c1 c2
      have q1 : (((F.getD w 0 : Nat) : Int) == ((W : Nat) : Int)) = false := by rw [qN, decide_eq_false hc]
      have q2 : ¬ ((F.getD w 0 : Nat) : Int) = (W : Int) := by omega
      generalize F.getD w 0 = X at *
      simp only [wFr] at ih ⊢
      simp [-List.length_flatMap, -List.map_take, e_trial_Survey_way_r0, e_trial_Survey_way_r1, e_trial_Survey_way_r2, e_trial_Survey_way_r3, e_trial_Survey_way_r4, e_trial_Survey_way_r5, e_trial_Survey_way_r6, e_trial_Survey_way_r8, e_trial_Survey_way_r9, e_trial_Survey_way_r10, e_trial_Survey_way_r11, e_trial_Survey_way_r12, e_trial_Survey_way_r13, e_trial_Survey_way_r14, e_trial_Survey_way_r15, e_trial_Survey_way_r16, e_trial_Survey_way_r17, e_trial_Survey_way_r19, e_trial_Survey_way_r21, e_trial_Survey_way_r22, e_trial_Survey_way_r23, e_trial_Survey_way_r24, e_trial_Survey_way_r25, e_trial_Survey_way_r26, e_trial_Survey_way_r27, e_trial_Survey_way_r28, e_trial_Survey_way_r30, h1, h2, h4, hwW, x1, hW, q1]
      exact WL.to ih (by simp [hW]) rfl fun x e σ' hh => by simpa [hW] using hh
theorem L_w20 {s : Surv} (h : Sv s) {W : Nat} (hW : s.w = W) {a to : Nat} (hto : ∃ w, adj s to w = true) : ∀ (n : Nat) (F q : List Nat) (cs : List D) (off vq : Nat), QI (adj s) W to F q → cntW W F + q.length ≤ n →
    cs.drop off = (iN q).flatMap intE → cs.length = off + q.length →
    WL T [1, 2, 3, 7, 9] false f_trial_Survey_way_l20 [(1, .int .i64 a), (2, .int .i64 to), (3, .cref s.enc), (7, .ref σ.length 1 0 0), (9, .sl σ.length 2 vq off q.length 1)] (wFr σ W F vq cs :: σ)
      (fun x e σ' => x = .exit 2 ∧ ∃ cs' vq', σ' = wFr σ W (bfs W (nearN s) n F q) vq' cs' :: σ ∧
        get e 1 = .int .i64 a ∧ get e 2 = .int .i64 to ∧ get e 3 = .cref s.enc ∧ get e 7 = .ref σ.length 1 0 0)
  | n, F, [], cs, off, vq, hQ, hn, c1, c2 => by
    refine WL_step e_trial_Survey_way_l20 ?_
    have hb : bfs W (nearN s) n F [] = F := by cases n <;> rfl
    rw [hb]
    simp [-List.length_flatMap, -List.map_take, e_trial_Survey_way_r0, e_trial_Survey_way_r1, e_trial_Survey_way_r2, e_trial_Survey_way_r3, e_trial_Survey_way_r4, e_trial_Survey_way_r5, e_trial_Survey_way_r6, e_trial_Survey_way_r8, e_trial_Survey_way_r9, e_trial_Survey_way_r10, e_trial_Survey_way_r11, e_trial_Survey_way_r12, e_trial_Survey_way_r13, e_trial_Survey_way_r14, e_trial_Survey_way_r15, e_trial_Survey_way_r16, e_trial_Survey_way_r17, e_trial_Survey_way_r19, e_trial_Survey_way_r21, e_trial_Survey_way_r22, e_trial_Survey_way_r23, e_trial_Survey_way_r24, e_trial_Survey_way_r25, e_trial_Survey_way_r26, e_trial_Survey_way_r27, e_trial_Survey_way_r28, e_trial_Survey_way_r30]
    exact ⟨cs, vq, rfl⟩
  | 0, F, v :: q, cs, off, vq, hQ, hn, c1, c2 => by simp at hn
  | n + 1, F, v :: q, cs, off, vq, hQ, hn, c1, c2 => by
    refine WL_step e_trial_Survey_way_l20 ?_
    have hw := h.w
    have e0 : s.w.toNat = W := by omega
    have hnb : ∀ v, v < W → ∀ w, w ∈ nearN s v ↔ adj s v w = true := fun v _ w => nearN_mem h
    have hadj : ∀ v w, adj s v w = true → w < W := fun v w hh => by have := adj_lt h hh; omega
    have hs := hQ.step hnb hadj
    have hv := hQ.b.qv v (by simp)
    have hne : nearR s v ≠ [] := by
      rcases hQ.b.lv v hv.1 hv.2 with ⟨_, rfl⟩ | ⟨u, _, hu, _⟩
      · obtain ⟨w, hw⟩ := hto
        exact near_ne h hw
      · exact near_ne h (adj_comm hu)
    have hN := fun (S : Stack) (hS : S ≠ []) => C_near (σ := S) h hne hS
    have hnl := near_len h (w := v)
    have ih := L_w20 h hW (a := a) hto n ((nearN s v).foldl (vis W v) (F, q)).1 ((nearN s v).foldl (vis W v) (F, q)).2
    rw [bfs]
    have c1' : cs.drop off = .int .i64 v :: (iN q).flatMap intE := by rw [c1]; rfl
    have hl1 : (0 : Int) < ((q.length + 1 : Nat) : Int) := by omega
    have hl2 : 0 < q.length + 1 := by omega
    have hM := hQ.pop
    have hnb2 : ∀ w ∈ nearN s v, w < W ∧ adj s v w = true := fun w hw => by have := nearN_lt h w hw; exact ⟨by omega, this.2⟩
    have hL := L_w18 (σ := σ) h hW (a := a) (v := v) hnb2 (by omega) (nearN s v).length 0 F q cs off vq (by omega) hM c1' (by simp only [List.length_cons] at c2; omega)
    rw [List.drop_zero] at hL
    generalize hnbe : nearN s v = nb at *
    simp only [wFr] at hL ⊢
    simp [-List.length_flatMap, -List.map_take, e_trial_Survey_way_r0, e_trial_Survey_way_r1, e_trial_Survey_way_r2, e_trial_Survey_way_r3, e_trial_Survey_way_r4, e_trial_Survey_way_r5, e_trial_Survey_way_r6, e_trial_Survey_way_r8, e_trial_Survey_way_r9, e_trial_Survey_way_r10, e_trial_Survey_way_r11, e_trial_Survey_way_r12, e_trial_Survey_way_r13, e_trial_Survey_way_r14, e_trial_Survey_way_r15, e_trial_Survey_way_r16, e_trial_Survey_way_r17, e_trial_Survey_way_r19, e_trial_Survey_way_r21, e_trial_Survey_way_r22, e_trial_Survey_way_r23, e_trial_Survey_way_r24, e_trial_Survey_way_r25, e_trial_Survey_way_r26, e_trial_Survey_way_r27, e_trial_Survey_way_r28, e_trial_Survey_way_r30, hl1, hl2, c1', hN]
    refine WL.to hL (by simp) rfl ?_
    rintro x e σ' ⟨rfl, cs', off', vq', r, hr, d1, d2, rfl, g1, g2, g3, g7, g9⟩
    rw [← hr] at hs ih ⊢
    have ih := ih cs' (off' + 1) vq' hs.1 (by rw [hs.2]; simp only [List.length_cons] at hn; omega) (by rw [← List.drop_drop, d1]; rfl) (by omega)
    simp only [wFr] at ih ⊢
    simp only [Surv.enc] at g3
    have hq1 : (1 : Int) ≤ (r.2.length : Int) + 1 := by omega
    simp [-List.length_flatMap, -List.map_take, e_trial_Survey_way_r19, g1, g2, g3, g7, g9, hq1]
    exact WL.to ih (by simp) rfl fun x e σ' hh => by simpa using hh
theorem up_first {l : List Nat} {p : Nat → Bool} {n : Nat} (h : l.Pairwise (· < ·)) (hn : n ∈ l) (hm : ∀ m ∈ l, p m = true → n ≤ m) : ∃ k : Nat, l[k]? = some n ∧ ∀ j x, j < k → l[j]? = some x → p x = false := by
  obtain ⟨k, hk⟩ := List.mem_iff_getElem?.1 hn
  refine ⟨k, hk, fun j x hj hx => ?_⟩
  obtain ⟨h1, h2⟩ := List.getElem?_eq_some_iff.1 hk
  obtain ⟨h3, h4⟩ := List.getElem?_eq_some_iff.1 hx
  have hlt := (List.pairwise_iff_getElem.1 h) j k h3 h1 hj
  rw [h2, h4] at hlt
  cases hp : p x
  · rfl
  · have := hm x (List.mem_of_getElem? hx) hp
    omega
/-- The frame further on: the way, and where it is. -/
def oFr (σ : Stack) (W : Nat) (F : List Nat) (vq : Nat) (cs : List D) (vo : Nat) (o : List Nat) (ats : List Blk) (a : Nat) : List Blk :=
  .cells 0 ((iN F).flatMap intE) :: .cells 0 [.sl σ.length 0 0 0 W 1] :: .cells vq cs :: .cells vo ((iN o).flatMap intE) :: (ats ++ [.cells 0 [.int .i64 a]])
theorem oFr_at {W vq vo a : Nat} {F o : List Nat} {cs : List D} {ats : List Blk} : (oFr σ W F vq cs vo o ats a)[ats.length + 4]? = some (.cells 0 [.int .i64 a]) := by simp [oFr]
theorem oFr_set {W vq vo a b : Nat} {F o : List Nat} {cs : List D} {ats : List Blk} : (oFr σ W F vq cs vo o ats a).set (ats.length + 4) (.cells 0 [.int .i64 b]) = oFr σ W F vq cs vo o ats b := by simp [oFr]
theorem oFr_out {W vq vo a vo' : Nat} {F o o' : List Nat} {cs : List D} {ats : List Blk} : (oFr σ W F vq cs vo o ats a).set 3 (.cells vo' ((iN o').flatMap intE)) = oFr σ W F vq cs vo' o' ats a := by simp [oFr]
theorem oFr_more {W vq vo a : Nat} {F o : List Nat} {cs : List D} {ats : List Blk} {d : D} : oFr σ W F vq cs vo o ats a ++ [.cells 0 [d]] = .cells 0 ((iN F).flatMap intE) :: .cells 0 [.sl σ.length 0 0 0 W 1] :: .cells vq cs :: .cells vo ((iN o).flatMap intE) :: ((ats ++ [.cells 0 [.int .i64 a]]) ++ [.cells 0 [d]]) := by simp [oFr]
theorem oFr_len {W vq vo a : Nat} {F o : List Nat} {cs : List D} {ats : List Blk} : (oFr σ W F vq cs vo o ats a).length = ats.length + 5 := by simp [oFr]
theorem L_w29 {s : Surv} (h : Sv s) {W : Nat} (hW : s.w = W) {to : Nat} {F : List Nat} (hf : Fin (adj s) s.w.toNat to F) {vq : Nat} {cs : List D} : ∀ (k a : Nat) (o : List Nat) (vo : Nat) (ats : List Blk), a < s.w.toNat → F.getD a 0 = k → k < s.w.toNat → o.length + k ≤ 100 →
    WL T [2, 3, 7, 12, 13] false f_trial_Survey_way_l29 [(2, .int .i64 to), (3, .cref s.enc), (7, .ref σ.length 1 0 0), (12, .sl σ.length 3 vo 0 o.length 1), (13, .ref σ.length (ats.length + 4) 0 0)] (oFr σ W F vq cs vo o ats a :: σ)
      (fun x e σ' => x = .exit 6 ∧ ∃ vo' r ats' b, r = o ++ wayL s F k a ∧ σ' = oFr σ W F vq cs vo' r ats' b :: σ ∧ get e 12 = .sl σ.length 3 vo' 0 r.length 1)
  | 0, a, o, vo, ats, ha, hk, hkW, hl => by
    refine WL_step e_trial_Survey_way_l29 ?_
    have hat : a = to := by
      rcases hf.b.lv a ha (by omega) with ⟨_, hh⟩ | ⟨_, _, _, hh⟩
      · exact hh
      · omega
    subst hat
    have f1 := @oFr_at σ W vq vo a F o cs ats
    generalize hX : oFr σ W F vq cs vo o ats a = X at *
    simp [-List.length_flatMap, -List.map_take, e_trial_Survey_way_r0, e_trial_Survey_way_r1, e_trial_Survey_way_r2, e_trial_Survey_way_r3, e_trial_Survey_way_r4, e_trial_Survey_way_r5, e_trial_Survey_way_r6, e_trial_Survey_way_r8, e_trial_Survey_way_r9, e_trial_Survey_way_r10, e_trial_Survey_way_r11, e_trial_Survey_way_r12, e_trial_Survey_way_r13, e_trial_Survey_way_r14, e_trial_Survey_way_r15, e_trial_Survey_way_r16, e_trial_Survey_way_r17, e_trial_Survey_way_r19, e_trial_Survey_way_r21, e_trial_Survey_way_r22, e_trial_Survey_way_r23, e_trial_Survey_way_r24, e_trial_Survey_way_r25, e_trial_Survey_way_r26, e_trial_Survey_way_r27, e_trial_Survey_way_r28, e_trial_Survey_way_r30, f1, wayL]
    exact ⟨ats, ⟨a, hX.symm⟩⟩
  | k + 1, a, o, vo, ats, ha, hk, hkW, hl => by
    refine WL_step e_trial_Survey_way_l29 ?_
    have hw := h.w
    have hat : ¬ (a : Int) = to := fun e => by
      have : a = to := by omega
      subst this
      have := hf.b.z; omega
    have hN := nxt_ok h hf ha (by omega) (by omega)
    have hfar := hN.far
    have hne := near_ne h hN.adj
    have hC := fun (S : Stack) (hS : S ≠ []) => C_near (σ := S) h hne hS
    have hnl := near_len h (w := a)
    obtain ⟨j, hj1, hj2⟩ := up_first (p := wayT F a) (nearN_up h (w := a)) hN.mem (fun m hm1 hm2 => hN.least m ((nearN_mem h).1 hm1) (by unfold wayT at hm2; simpa using hm2))
    have hpn : wayT F a (nxt s F a) = true := by unfold wayT; simpa using hfar
    have hFl : F.length = W := by have := hf.b.len; omega
    have hix := C_ixN (k1 := σ.length) (k2 := ats.length + 4) (S := oFr σ W F vq cs vo o ats a :: σ) (p := wayT F a) (l := nearN s a) (fun x hx => by
      have hx2 := nearN_lt h x hx
      exact C_way1 (σ := σ) (W := W) (k := ats.length + 4) (n := x) (a := a) (F := F) (fr := oFr σ W F vq cs vo o ats a) (pre := [[]]) rfl rfl oFr_at hFl (by omega) (by omega) (fun i hi => by have := hf.b.le i (by omega); omega)) (by omega) hj1 hpn hj2
    have hjl := (List.getElem?_eq_some_iff.1 hj1).1
    have a1 := iN_at hj1
    have ih := L_w29 h hW hf (vq := vq) (cs := cs) k (nxt s F a) (o ++ [nxt s F a]) (vo + 1) (ats ++ [.cells 0 [.int .i64 (nxt s F a)]]) hN.lt (by omega) (by omega) (by simp only [List.length_append, List.length_cons, List.length_nil]; omega)
    have e2 : wayL s F (k + 1) a = nxt s F a :: wayL s F k (nxt s F a) := rfl
    rw [e2]
    have e1 : (o ++ [nxt s F a]).length = o.length + 1 := by simp
    have e3 : (ats ++ [Blk.cells 0 [.int .i64 (nxt s F a)]]).length = ats.length + 1 := by simp
    rw [e1, e3] at ih
    generalize nxt s F a = n at *
    have f1 := @oFr_at σ W vq vo a F o cs ats
    have f2 := @oFr_at σ W vq vo n F o cs ats
    have f3 := @oFr_set σ W vq vo a n F o cs ats
    have f4 := @oFr_out σ W vq vo n (vo + 1) F o (o ++ [n]) cs ats
    have f5 : (oFr σ W F vq cs vo o ats n)[3]? = some (.cells vo ((iN o).flatMap intE)) := rfl
    have f6 := @oFr_at σ W vq (vo + 1) n F (o ++ [n]) cs ats
    have f7 := @oFr_len σ W vq (vo + 1) n F (o ++ [n]) cs ats
    have f8 := fun d => @oFr_more σ W vq (vo + 1) n F (o ++ [n]) cs ats d
    rw [iN_snoc] at f4
    have a3 := @iN_len o
    have a4 := @iN_all o
    have h7 : (o.length + 1) * 8 ≤ room := by unfold room; omega
    generalize oFr σ W F vq cs vo o ats a = X at *
    generalize oFr σ W F vq cs vo o ats n = Y at *
    generalize hZ : oFr σ W F vq cs (vo + 1) (o ++ [n]) ats n = Z at *
    have ih' : oFr σ W F vq cs (vo + 1) (o ++ [n]) (ats ++ [.cells 0 [.int .i64 n]]) n = Z ++ [.cells 0 [.int .i64 n]] := by rw [f8]; rfl
    rw [ih'] at ih
    clear f8
    have f9 : ∀ hh : ats.length + 4 < Z.length, Z[ats.length + 4] = Blk.cells 0 [.int .i64 n] := fun _ => (List.getElem?_eq_some_iff.1 f6).2
    simp [-List.length_flatMap, -List.map_take, e_trial_Survey_way_r0, e_trial_Survey_way_r1, e_trial_Survey_way_r2, e_trial_Survey_way_r3, e_trial_Survey_way_r4, e_trial_Survey_way_r5, e_trial_Survey_way_r6, e_trial_Survey_way_r8, e_trial_Survey_way_r9, e_trial_Survey_way_r10, e_trial_Survey_way_r11, e_trial_Survey_way_r12, e_trial_Survey_way_r13, e_trial_Survey_way_r14, e_trial_Survey_way_r15, e_trial_Survey_way_r16, e_trial_Survey_way_r17, e_trial_Survey_way_r19, e_trial_Survey_way_r21, e_trial_Survey_way_r22, e_trial_Survey_way_r23, e_trial_Survey_way_r24, e_trial_Survey_way_r25, e_trial_Survey_way_r26, e_trial_Survey_way_r27, e_trial_Survey_way_r28, e_trial_Survey_way_r30, hat, f1, f2, f3, f4, f5, f6, f7, f9, hC, hix, hjl, a1, a3, a4, h7]
    exact WL.to ih (by simp) (by simp) fun x e σ' hh => by simpa using hh
theorem C_way {s : Surv} (h : Sv s) {a to : Nat} (ha : a < s.w.toNat) (ht : to < s.w.toNat) (hne : a ≠ to) (hg : Gr s a = Gr s to) (hσ : σ ≠ []) :
    lim T (.call false i_trial_Survey_way [.agg [.int .i64 s.w, .int .i64 s.lv, .lst s.l.length (s.l.flatMap Seen.enc)], .int .i64 a, .int .i64 to] σ) = some (.val (.lst (wayS s a to).length ((iN (wayS s a to)).flatMap intE)) σ) := by
  refine call_of T_trial_Survey_way e_trial_Survey_way rfl ?_
  have hw := h.w
  obtain ⟨W, hW⟩ : ∃ W : Nat, s.w = W := ⟨s.w.toNat, by omega⟩
  have e0 : s.w.toNat = W := by omega
  have hf := far_fin h ht
  have hlt := far_lt h ht hg
  have hz := @mk_zero W
  have hr : (W : Int) * 8 ≤ (room : Int) := by unfold room; omega
  simp [-List.length_flatMap, -List.map_take, e_trial_Survey_way_r0, e_trial_Survey_way_r1, e_trial_Survey_way_r2, e_trial_Survey_way_r3, e_trial_Survey_way_r4, e_trial_Survey_way_r5, e_trial_Survey_way_r6, e_trial_Survey_way_r8, e_trial_Survey_way_r9, e_trial_Survey_way_r10, e_trial_Survey_way_r11, e_trial_Survey_way_r12, e_trial_Survey_way_r13, e_trial_Survey_way_r14, e_trial_Survey_way_r15, e_trial_Survey_way_r16, e_trial_Survey_way_r17, e_trial_Survey_way_r19, e_trial_Survey_way_r21, e_trial_Survey_way_r22, e_trial_Survey_way_r23, e_trial_Survey_way_r24, e_trial_Survey_way_r25, e_trial_Survey_way_r26, e_trial_Survey_way_r27, e_trial_Survey_way_r28, e_trial_Survey_way_r30, hW, hz, hr]
  refine WL.to (L_wz (σ := σ) h hW (a := a) (to := to) W 0 (List.replicate W 0) (by omega) (by simp) (fun j hj => by omega)) (by simp [hW]) rfl ?_
  rintro x e σ' ⟨rfl, rfl, g1, g2, g3, g7⟩
  have s1 := iN_set (l := List.replicate W W) (i := to) (x := 0) (by simp; omega)
  have htW : to < W := by omega
  have b2 : to + 1 ≤ W := by omega
  have a3 := @iN_len (List.replicate W W)
  simp only [List.length_replicate] at a3
  have hz2 : (List.replicate W W).set to 0 = farZ W to := rfl
  rw [hz2, show ((0 : Nat) : Int) = 0 from rfl] at s1
  simp only [Surv.enc] at g3
  simp [-List.length_flatMap, -List.map_take, e_trial_Survey_way_r8, e_trial_Survey_way_r9, g1, g2, g3, g7, htW, a3, b2, s1]
  have z1 := cntW_le W (farZ W to)
  have z2 : (farZ W to).length = W := by simp [farZ]
  have z3 : cntW W (farZ W to) + [to].length ≤ W + 1 := by simp only [List.length_cons, List.length_nil]; omega
  refine WL.to (L_w20 (σ := σ) h hW (a := a) (to := to) (to_near h hg hne) (W + 1) (farZ W to) [to] [.int .i64 to] 0 0 (by have := QI.zero (adj := adj s) ht; rw [e0] at this; exact this) z3 rfl rfl) (by simp) (by simp [wFr]) ?_
  rintro x e σ' ⟨rfl, cs, vq, rfl, g1, g2, g3, g7⟩
  have hb := far_bfs h ht
  rw [e0] at hb
  rw [hb]
  simp only [Surv.enc] at g3
  have hl2 : [a].length + (farS s to).getD a 0 ≤ 100 := by simp only [List.length_cons, List.length_nil]; omega
  have hL := L_w29 (σ := σ) h hW hf (vq := vq) (cs := cs) ((farS s to).getD a 0) a [a] 0 [] ha rfl hlt hl2
  have hwy : ∀ r, r = [a] ++ wayL s (farS s to) ((farS s to).getD a 0) a → r = wayS s a to := fun r hr => hr
  simp only [oFr] at hL
  simp only [wFr]
  simp [-List.length_flatMap, -List.map_take, e_trial_Survey_way_r21, e_trial_Survey_way_r22, g1, g2, g3, g7]
  refine WL.to hL (by simp) (by simp [iN]) ?_
  rintro x e σ' ⟨rfl, vo', r, ats', b, hrr, rfl, g12⟩
  have hrr := hwy r hrr
  rw [← hrr]
  simp [-List.length_flatMap, -List.map_take, e_trial_Survey_way_r30, g12]
  have := k_out (f := intE) (w := 1) (fun _ => rfl) (fun x => by simp) (l := iN r) (j := 3) (v := vo') (bs := .cells 0 ((iN (farS s to)).flatMap intE) :: .cells 0 [.sl σ.length 0 0 0 W 1] :: .cells vq cs :: .cells vo' ((iN r).flatMap intE) :: (ats' ++ [.cells 0 [.int .i64 b]])) hσ rfl
  simp only [iN_length] at this
  rw [this]
  simp
end Go.Proofs.Ytcjjdaifpboaaaa
