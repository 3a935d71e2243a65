/-
  Layer 4, between wells, in plain Lean: how many steps lead from a well to each one, found by a queue, or by rounds over all pairs. No program in sight.
-/
import Derived.Test.YtcjjdaifpboaaaaSurvSpec
import Derived.Test.YtcjjdaifpboaaaaBase2
set_option linter.unusedVariables false
set_option linter.unusedSimpArgs false
namespace Go.Trial
open Go Go.Abs

/-- Wells that can be come to in so many steps. -/
def Rch (adj : Nat → Nat → Bool) (W to : Nat) : Nat → Nat → Prop
  | 0, w => w = to
  | k + 1, w => ∃ v, v < W ∧ Rch adj W to k v ∧ adj v w = true
/-- The least numbers of steps; W: none. -/
structure Dist (adj : Nat → Nat → Bool) (W to : Nat) (F : List Nat) : Prop where
  len : F.length = W
  le : ∀ (i x : Nat), F[i]? = some x → x ≤ W
  is : ∀ (i x : Nat), F[i]? = some x → x < W → Rch adj W to x i
  ub : ∀ (k i x : Nat), F[i]? = some x → k < W → Rch adj W to k i → x ≤ k
theorem Dist.one {adj : Nat → Nat → Bool} {W to : Nat} {F G : List Nat} (hF : Dist adj W to F) (hG : Dist adj W to G) : F = G := by
  have key : ∀ {F G : List Nat}, Dist adj W to F → Dist adj W to G → ∀ (i x y : Nat), F[i]? = some x → G[i]? = some y → x ≤ y := by
    intro F G hF hG i x y hx hy
    by_cases h : y < W
    · exact hF.ub y i x hx h (hG.is i y hy h)
    · have := hF.le i x hx
      omega
  apply List.ext_getElem?
  intro i
  by_cases hi : i < W
  · have h1 : i < F.length := by rw [hF.len]; exact hi
    have h2 : i < G.length := by rw [hG.len]; exact hi
    have e1 := List.getElem?_eq_getElem h1
    have e2 := List.getElem?_eq_getElem h2
    rw [e1, e2]
    have a := key hF hG i _ _ e1 e2
    have b := key hG hF i _ _ e2 e1
    congr 1
    omega
  · rw [List.getElem?_eq_none (by rw [hF.len]; omega), List.getElem?_eq_none (by rw [hG.len]; omega)]

/-! ### Rounds over all pairs -/

def rlx (adj : Nat → Nat → Bool) (F : List Nat) (e : Nat × Nat) : List Nat := if adj e.1 e.2 = true ∧ F.getD e.1 0 + 1 < F.getD e.2 0 then F.set e.2 (F.getD e.1 0 + 1) else F
def pairsW (W : Nat) : List (Nat × Nat) := (List.range' 0 W).flatMap fun a => (List.range' 0 W).map fun b => (a, b)
def rlxR (adj : Nat → Nat → Bool) (W : Nat) (F : List Nat) : List Nat := (pairsW W).foldl (rlx adj) F
def farZ (W to : Nat) : List Nat := (List.replicate W W).set to 0
def farR (adj : Nat → Nat → Bool) (W to : Nat) : List Nat := rep (rlxR adj W) W (farZ W to)
structure RInv (adj : Nat → Nat → Bool) (W to : Nat) (F : List Nat) : Prop where
  len : F.length = W
  le : ∀ (i x : Nat), F[i]? = some x → x ≤ W
  is : ∀ (i x : Nat), F[i]? = some x → x < W → Rch adj W to x i
theorem getD_some {F : List Nat} {i x : Nat} (h : F[i]? = some x) : F.getD i 0 = x := by rw [List.getD_eq_getElem?_getD, h]; rfl
theorem some_getD {F : List Nat} {i : Nat} (h : i < F.length) : F[i]? = some (F.getD i 0) := by rw [List.getD_eq_getElem?_getD, List.getElem?_eq_getElem h]; rfl
theorem rlx_inv {adj : Nat → Nat → Bool} {W to : Nat} {F : List Nat} (h : RInv adj W to F) {e : Nat × Nat} (he : e.1 < W ∧ e.2 < W) :
    RInv adj W to (rlx adj F e) ∧ (∀ (i x y : Nat), F[i]? = some x → (rlx adj F e)[i]? = some y → y ≤ x) ∧ (adj e.1 e.2 = true → ∀ (x y : Nat), F[e.1]? = some x → (rlx adj F e)[e.2]? = some y → y ≤ x + 1) := by
  have h1 := some_getD (F := F) (i := e.1) (by rw [h.len]; exact he.1)
  have h2 := some_getD (F := F) (i := e.2) (by rw [h.len]; exact he.2)
  unfold rlx
  by_cases hc : adj e.1 e.2 = true ∧ F.getD e.1 0 + 1 < F.getD e.2 0
  · rw [if_pos hc]
    have hle := h.le _ _ h2
    refine ⟨⟨by rw [List.length_set]; exact h.len, fun i x hx => ?_, fun i x hx hxW => ?_⟩, fun i x y hx hy => ?_, fun ha x y hx hy => ?_⟩
    · by_cases hi : e.2 = i
      · subst hi
        rw [List.getElem?_set_self (by rw [h.len]; exact he.2)] at hx
        cases hx; omega
      · rw [List.getElem?_set_ne hi] at hx; exact h.le i x hx
    · by_cases hi : e.2 = i
      · subst hi
        rw [List.getElem?_set_self (by rw [h.len]; exact he.2)] at hx
        cases hx
        exact ⟨e.1, he.1, h.is _ _ h1 (by omega), hc.1⟩
      · rw [List.getElem?_set_ne hi] at hx; exact h.is i x hx hxW
    · by_cases hi : e.2 = i
      · subst hi
        rw [List.getElem?_set_self (by rw [h.len]; exact he.2)] at hy
        cases hy
        rw [h2] at hx; cases hx; omega
      · rw [List.getElem?_set_ne hi, hx] at hy; cases hy; exact Nat.le_refl _
    · rw [List.getElem?_set_self (by rw [h.len]; exact he.2)] at hy
      cases hy
      rw [h1] at hx; cases hx; exact Nat.le_refl _
  · rw [if_neg hc]
    refine ⟨h, fun i x y hx hy => by rw [hx] at hy; cases hy; exact Nat.le_refl _, fun ha x y hx hy => ?_⟩
    rw [h1] at hx; rw [h2] at hy; cases hx; cases hy
    have : ¬ (F.getD e.1 0 + 1 < F.getD e.2 0) := fun hh => hc ⟨ha, hh⟩
    omega
theorem rlx_fold {adj : Nat → Nat → Bool} {W to : Nat} : ∀ (es : List (Nat × Nat)) (F : List Nat), RInv adj W to F → (∀ e ∈ es, e.1 < W ∧ e.2 < W) →
    RInv adj W to (es.foldl (rlx adj) F) ∧ (∀ (i x y : Nat), F[i]? = some x → (es.foldl (rlx adj) F)[i]? = some y → y ≤ x) ∧ (∀ e ∈ es, adj e.1 e.2 = true → ∀ (x y : Nat), F[e.1]? = some x → (es.foldl (rlx adj) F)[e.2]? = some y → y ≤ x + 1)
  | [], F, h, _ => ⟨h, fun i x y hx hy => by rw [List.foldl_nil, hx] at hy; cases hy; exact Nat.le_refl _, by simp⟩
  | e :: es, F, h, he => by
    have h1 := rlx_inv h (he e (by simp))
    have ih := rlx_fold es (rlx adj F e) h1.1 fun e he' => he e (by simp [he'])
    rw [List.foldl_cons]
    refine ⟨ih.1, fun i x y hx hy => ?_, fun e' he' ha x y hx hy => ?_⟩
    · have hi : i < (rlx adj F e).length := by rw [h1.1.len, ← h.len]; exact (List.getElem?_eq_some_iff.1 hx).1
      have a := h1.2.1 i x _ hx (some_getD hi)
      have b := ih.2.1 i _ y (some_getD hi) hy
      omega
    · rcases List.mem_cons.1 he' with rfl | he'
      · have hi : e'.2 < (rlx adj F e').length := by rw [h1.1.len]; exact (he e' (by simp)).2
        have a := h1.2.2 ha x _ hx (some_getD hi)
        have b := ih.2.1 _ _ y (some_getD hi) hy
        omega
      · have hb := he e' (by simp [he'])
        have hi : e'.1 < (rlx adj F e).length := by rw [h1.1.len]; exact hb.1
        have a := ih.2.2 e' he' ha _ y (some_getD hi) hy
        have b := h1.2.1 _ x _ hx (some_getD hi)
        omega
theorem pairsW_mem {W a b : Nat} : (a, b) ∈ pairsW W ↔ a < W ∧ b < W := by
  simp [pairsW, List.mem_range'_1]
theorem farZ_inv {adj : Nat → Nat → Bool} {W to : Nat} (ht : to < W) : RInv adj W to (farZ W to) := by
  refine ⟨by simp [farZ], fun i x hx => ?_, fun i x hx hxW => ?_⟩
  · unfold farZ at hx
    by_cases hi : to = i
    · subst hi; rw [List.getElem?_set_self (by simpa using ht)] at hx; cases hx; omega
    · rw [List.getElem?_set_ne hi, List.getElem?_replicate] at hx
      split at hx <;> cases hx
      exact Nat.le_refl _
  · unfold farZ at hx
    by_cases hi : to = i
    · subst hi; rw [List.getElem?_set_self (by simpa using ht)] at hx; cases hx; rfl
    · rw [List.getElem?_set_ne hi, List.getElem?_replicate] at hx
      split at hx <;> cases hx
      omega
theorem farR_dist {adj : Nat → Nat → Bool} {W to : Nat} (ht : to < W) (hadj : ∀ v w, adj v w = true → w < W) : Dist adj W to (farR adj W to) := by
  have key : ∀ n, RInv adj W to (rep (rlxR adj W) n (farZ W to)) ∧ ∀ k, k ≤ n → ∀ (i x : Nat), (rep (rlxR adj W) n (farZ W to))[i]? = some x → Rch adj W to k i → x ≤ k := by
    intro n
    induction n with
    | zero =>
      refine ⟨farZ_inv ht, fun k hk i x hx hr => ?_⟩
      obtain rfl : k = 0 := by omega
      have hi : i = to := hr
      subst hi
      simp only [rep, farZ] at hx
      rw [List.getElem?_set_self (by simpa using ht)] at hx
      cases hx; exact Nat.le_refl _
    | succ n ih =>
      have hP : ∀ e ∈ pairsW W, e.1 < W ∧ e.2 < W := fun e he => pairsW_mem.1 (by simpa using he)
      have hf := rlx_fold (pairsW W) _ ih.1 hP
      refine ⟨hf.1, fun k hk i x hx hr => ?_⟩
      by_cases hkn : k ≤ n
      · have hi : i < (rep (rlxR adj W) n (farZ W to)).length := by
          have h0 := (List.getElem?_eq_some_iff.1 hx).1
          have h3 : (rep (rlxR adj W) (n + 1) (farZ W to)).length = W := hf.1.len
          rw [h3] at h0
          rw [ih.1.len]; exact h0
        have a := ih.2 k hkn i _ (some_getD hi) hr
        have b := hf.2.1 i _ x (some_getD hi) hx
        omega
      · obtain rfl : k = n + 1 := by omega
        obtain ⟨v, hv, hrv, hadv⟩ := hr
        have hi : v < (rep (rlxR adj W) n (farZ W to)).length := by rw [ih.1.len]; exact hv
        have a := ih.2 n (Nat.le_refl _) v _ (some_getD hi) hrv
        have b := hf.2.2 (v, i) (pairsW_mem.2 ⟨hv, hadj v i hadv⟩) hadv ((rep (rlxR adj W) n (farZ W to)).getD v 0) x (some_getD hi) hx
        omega
  have hk := key W
  exact ⟨hk.1.len, hk.1.le, hk.1.is, fun k i x hx hkW hr => hk.2 k (by omega) i x hx hr⟩

/-! ### A queue -/

def vis (W v : Nat) (st : List Nat × List Nat) (w : Nat) : List Nat × List Nat := if st.1.getD w 0 = W then (st.1.set w (st.1.getD v 0 + 1), st.2 ++ [w]) else st
def bfs (W : Nat) (nb : Nat → List Nat) : Nat → List Nat → List Nat → List Nat
  | 0, F, _ => F
  | _ + 1, F, [] => F
  | n + 1, F, v :: q => bfs W nb n ((nb v).foldl (vis W v) (F, q)).1 ((nb v).foldl (vis W v) (F, q)).2
/-- How many are not found yet. -/
def cntW (W : Nat) : List Nat → Nat
  | [] => 0
  | x :: F => (if x = W then 1 else 0) + cntW W F
theorem cntW_le (W : Nat) : ∀ F : List Nat, cntW W F ≤ F.length
  | [] => Nat.le_refl _
  | x :: F => by
    have := cntW_le W F
    simp only [cntW, List.length_cons]
    split <;> omega
theorem cntW_set {W x : Nat} (hx : x ≠ W) : ∀ (F : List Nat) (w : Nat), F[w]? = some W → cntW W (F.set w x) + 1 = cntW W F
  | [], w, h => by simp at h
  | y :: F, 0, h => by
    simp at h; subst h
    simp only [List.set_cons_zero, cntW, if_neg hx]
    simp; omega
  | y :: F, w + 1, h => by
    have := cntW_set hx F w (by simpa using h)
    simp only [List.set_cons_succ, cntW]
    omega
theorem nodup_few : ∀ {l m : List Nat}, l.Nodup → (∀ x ∈ l, x ∈ m) → l.length ≤ m.length
  | [], m, _, _ => Nat.zero_le _
  | a :: l, m, h, hm => by
    rw [List.nodup_cons] at h
    have ha := hm a (by simp)
    have ih := nodup_few (l := l) (m := m.erase a) h.2 fun x hx => (List.mem_erase_of_ne (by rintro rfl; exact h.1 hx)).2 (hm x (by simp [hx]))
    have h2 := List.length_erase_of_mem ha
    have h3 := List.length_pos_of_mem ha
    simp only [List.length_cons]
    omega
/-- What holds of the steps found, with the wells that wait; d: the steps of those that are gone at most. -/
structure BI (adj : Nat → Nat → Bool) (W to : Nat) (F q : List Nat) : Prop where
  len : F.length = W
  le : ∀ i, i < W → F.getD i 0 ≤ W
  z : to < W ∧ F.getD to 0 = 0 ∧ 0 < W
  lv : ∀ w, w < W → F.getD w 0 < W → (F.getD w 0 = 0 ∧ w = to) ∨ ∃ v, v < W ∧ adj v w = true ∧ F.getD v 0 + 1 = F.getD w 0
  qv : ∀ v ∈ q, v < W ∧ F.getD v 0 < W
  nd : q.Nodup
theorem getD_set_self {F : List Nat} {w x : Nat} (h : w < F.length) : (F.set w x).getD w 0 = x := by
  rw [List.getD_eq_getElem?_getD, List.getElem?_set_self h]; rfl
theorem getD_set_ne {F : List Nat} {w i x : Nat} (h : w ≠ i) : (F.set w x).getD i 0 = F.getD i 0 := by
  rw [List.getD_eq_getElem?_getD, List.getElem?_set_ne h, List.getD_eq_getElem?_getD]
/-- Each number of steps up to one that is found is found, too; so it is not the last but one where a well is not found. -/
theorem lv_room {adj : Nat → Nat → Bool} {W to : Nat} {F q : List Nat} (h : BI adj W to F q) {v w : Nat} (hv : v < W) (hvF : F.getD v 0 < W) (hw : w < W) (hwF : F.getD w 0 = W) : F.getD v 0 + 1 < W := by
  have key : ∀ d v, v < W → F.getD v 0 = d → d < W → ∀ j, j ≤ d → ∃ u, u < W ∧ F.getD u 0 = j := by
    intro d
    induction d with
    | zero => intro v hv hd _ j hj; exact ⟨v, hv, by omega⟩
    | succ d ih =>
      intro v hv hd hdW j hj
      by_cases hjd : j = d + 1
      · exact ⟨v, hv, by omega⟩
      · rcases h.lv v hv (by omega) with ⟨h0, _⟩ | ⟨u, hu, _, hu2⟩
        · omega
        · exact ih u hu (by omega) (by omega) j (by omega)
  have hmem : ∀ x ∈ List.range (F.getD v 0 + 1) ++ [W], x ∈ F := by
    intro x hx
    have hx' : ∃ u, u < W ∧ F.getD u 0 = x := by
      rcases List.mem_append.1 hx with hx | hx
      · exact key _ v hv rfl hvF x (by have := List.mem_range.1 hx; omega)
      · simp at hx; subst hx; exact ⟨w, hw, hwF⟩
    obtain ⟨u, hu, rfl⟩ := hx'
    exact List.mem_of_getElem? (some_getD (by rw [h.len]; exact hu))
  have hnd : (List.range (F.getD v 0 + 1) ++ [W]).Nodup := by
    rw [List.nodup_append]
    refine ⟨List.nodup_range, by simp, fun a ha b hb => ?_⟩
    simp at hb; subst hb
    have := List.mem_range.1 ha
    omega
  have := nodup_few hnd hmem
  rw [h.len] at this
  simp only [List.length_append, List.length_range, List.length_cons, List.length_nil] at this
  omega
/-- While the wells beside one are looked at. -/
structure MI (adj : Nat → Nat → Bool) (W to v d : Nat) (F q : List Nat) : Prop where
  b : BI adj W to F q
  cv : v < W ∧ v ∉ q ∧ F.getD v 0 = d ∧ d < W
  s : q.Pairwise fun a b => F.getD a 0 ≤ F.getD b 0
  qd : ∀ u ∈ q, d ≤ F.getD u 0 ∧ F.getD u 0 ≤ d + 1
  dn : ∀ u, u < W → F.getD u 0 < W → u ∉ q → u ≠ v → F.getD u 0 ≤ d ∧ ∀ w, adj u w = true → F.getD w 0 < W ∧ F.getD w 0 ≤ F.getD u 0 + 1
theorem vis_ok {adj : Nat → Nat → Bool} {W to v d : Nat} {F q : List Nat} (h : MI adj W to v d F q) {w : Nat} (hw : w < W) (ha : adj v w = true) :
    MI adj W to v d (vis W v (F, q) w).1 (vis W v (F, q) w).2 ∧ ((vis W v (F, q) w).1.getD w 0 < W ∧ (vis W v (F, q) w).1.getD w 0 ≤ d + 1) ∧ (∀ u, u < W → F.getD u 0 < W → (vis W v (F, q) w).1.getD u 0 = F.getD u 0) ∧ cntW W (vis W v (F, q) w).1 + (vis W v (F, q) w).2.length = cntW W F + q.length := by
  unfold vis
  have hwl : w < F.length := by rw [h.b.len]; exact hw
  by_cases hu : F.getD w 0 = W
  · have hroom := lv_room h.b h.cv.1 (by rw [h.cv.2.2.1]; exact h.cv.2.2.2) hw hu
    rw [h.cv.2.2.1] at hroom
    have hvw : w ≠ v := by rintro rfl; have := h.cv.2.2; omega
    have hwq : w ∉ q := fun hq => by have := (h.b.qv w hq).2; omega
    have hwt : w ≠ to := by rintro rfl; have := h.b.z; omega
    simp only [hu, if_true, h.cv.2.2.1]
    have hg : ∀ u, u ≠ w → (F.set w (d + 1)).getD u 0 = F.getD u 0 := fun u hu => getD_set_ne (fun e => hu e.symm)
    have hs : (F.set w (d + 1)).getD w 0 = d + 1 := getD_set_self hwl
    have hq : ∀ u ∈ q, (F.set w (d + 1)).getD u 0 = F.getD u 0 := fun u hq => hg u (fun e => hwq (e ▸ hq))
    refine ⟨⟨⟨by rw [List.length_set]; exact h.b.len, fun i hi => ?_, ⟨h.b.z.1, by rw [hg to (fun e => hwt e.symm)]; exact h.b.z.2.1, h.b.z.2.2⟩, fun x hx hxW => ?_, fun x hx => ?_, ?_⟩, ⟨h.cv.1, ?_, by rw [hg v (fun e => hvw e.symm)]; exact h.cv.2.2.1, h.cv.2.2.2⟩, ?_, fun u hu' => ?_, fun u hu1 hu2 hu3 hu4 => ?_⟩, ⟨by rw [hs]; omega, by rw [hs]; exact Nat.le_refl _⟩, fun u hu1 hu2 => ?_, ?_⟩
    · by_cases hi' : i = w
      · subst hi'; rw [hs]; omega
      · rw [hg i hi']; exact h.b.le i hi
    · by_cases hx' : x = w
      · subst hx'
        right
        exact ⟨v, h.cv.1, ha, by rw [hs, hg v (fun e => hvw e.symm), h.cv.2.2.1]⟩
      · rw [hg x hx'] at hxW ⊢
        rcases h.b.lv x hx hxW with h0 | ⟨u, hu1, hu2, hu3⟩
        · exact .inl h0
        · refine .inr ⟨u, hu1, hu2, ?_⟩
          rw [hg u (by rintro rfl; omega)]; exact hu3
    · rcases List.mem_append.1 hx with hx | hx
      · rw [hq x hx]; exact h.b.qv x hx
      · simp at hx; subst hx; rw [hs]; exact ⟨hw, by omega⟩
    · rw [List.nodup_append]
      exact ⟨h.b.nd, by simp, fun a ha' b hb => by simp at hb; subst hb; rintro rfl; exact hwq ha'⟩
    · intro hm
      rcases List.mem_append.1 hm with hm | hm
      · exact h.cv.2.1 hm
      · simp at hm; exact hvw hm.symm
    · rw [List.pairwise_append]
      refine ⟨h.s.imp_of_mem (fun {a b} ha' hb' hab => by rw [hq a ha', hq b hb']; exact hab), by simp, fun a ha' b hb => ?_⟩
      simp at hb; subst hb
      rw [hs, hq a ha']
      exact (h.qd a ha').2
    · rcases List.mem_append.1 hu' with hm | hm
      · rw [hq u hm]; exact h.qd u hm
      · simp at hm; subst hm; rw [hs]; omega
    · have huw : u ≠ w := by rintro rfl; exact hu3 (by simp)
      rw [hg u huw] at hu2 ⊢
      have h5 := h.dn u hu1 hu2 (fun hm => hu3 (by simp [hm])) hu4
      refine ⟨h5.1, fun x hx => ?_⟩
      have h6 := h5.2 x hx
      have hxw : x ≠ w := by rintro rfl; omega
      rw [hg x hxw]; exact h6
    · exact hg u (by rintro rfl; omega)
    · have hW : F[w]? = some W := by rw [some_getD hwl, hu]
      have := cntW_set (x := d + 1) (by omega) F w hW
      simp only [List.length_append, List.length_cons, List.length_nil]
      omega
  · have hF : F.getD w 0 < W := by have := h.b.le w hw; omega
    simp only [hu, if_false]
    refine ⟨h, ⟨hF, ?_⟩, fun _ _ _ => trivial, trivial⟩
    by_cases hq : w ∈ q
    · exact (h.qd w hq).2
    · by_cases hv : w = v
      · subst hv; have := h.cv.2.2.1; omega
      · have := (h.dn w hw hF hq hv).1; omega
theorem vis_fold {adj : Nat → Nat → Bool} {W to v d : Nat} : ∀ (ws : List Nat) (F q : List Nat), MI adj W to v d F q → (∀ w ∈ ws, w < W ∧ adj v w = true) →
    MI adj W to v d (ws.foldl (vis W v) (F, q)).1 (ws.foldl (vis W v) (F, q)).2 ∧ (∀ w ∈ ws, (ws.foldl (vis W v) (F, q)).1.getD w 0 < W ∧ (ws.foldl (vis W v) (F, q)).1.getD w 0 ≤ d + 1) ∧ (∀ u, u < W → F.getD u 0 < W → (ws.foldl (vis W v) (F, q)).1.getD u 0 = F.getD u 0) ∧ cntW W (ws.foldl (vis W v) (F, q)).1 + (ws.foldl (vis W v) (F, q)).2.length = cntW W F + q.length
  | [], F, q, h, _ => ⟨h, by simp, fun _ _ _ => rfl, rfl⟩
  | w :: ws, F, q, h, hw => by
    have hw0 := hw w (by simp)
    have h1 := vis_ok h hw0.1 hw0.2
    have ih := vis_fold ws (vis W v (F, q) w).1 (vis W v (F, q) w).2 h1.1 fun x hx => hw x (by simp [hx])
    rw [List.foldl_cons]
    refine ⟨ih.1, fun x hx => ?_, fun u hu1 hu2 => ?_, ?_⟩
    · rcases List.mem_cons.1 hx with rfl | hx
      · have := ih.2.2.1 x hw0.1 h1.2.1.1
        rw [this]; exact h1.2.1
      · exact ih.2.1 x hx
    · have a := h1.2.2.1 u hu1 hu2
      rw [ih.2.2.1 u hu1 (by rw [a]; exact hu2), a]
    · rw [ih.2.2.2]; exact h1.2.2.2
/-- Between two wells of the queue. -/
structure QI (adj : Nat → Nat → Bool) (W to : Nat) (F q : List Nat) : Prop where
  b : BI adj W to F q
  s : q.Pairwise fun a b => F.getD a 0 ≤ F.getD b 0
  qd : ∀ u ∈ q, ∀ x ∈ q, F.getD u 0 ≤ F.getD x 0 + 1
  dn : ∀ u, u < W → F.getD u 0 < W → u ∉ q → (∀ x ∈ q, F.getD u 0 ≤ F.getD x 0) ∧ ∀ w, adj u w = true → F.getD w 0 < W ∧ F.getD w 0 ≤ F.getD u 0 + 1
theorem QI.pop {adj : Nat → Nat → Bool} {W to v : Nat} {F q : List Nat} (h : QI adj W to F (v :: q)) : MI adj W to v (F.getD v 0) F q := by
  have hs := List.pairwise_cons.1 h.s
  have hn := List.nodup_cons.1 h.b.nd
  have hv := h.b.qv v (by simp)
  refine ⟨⟨h.b.len, h.b.le, h.b.z, h.b.lv, fun x hx => h.b.qv x (by simp [hx]), hn.2⟩, ⟨hv.1, hn.1, rfl, hv.2⟩, hs.2, fun u hu => ⟨hs.1 u hu, h.qd u (by simp [hu]) v (by simp)⟩, fun u hu1 hu2 hu3 hu4 => ?_⟩
  have := h.dn u hu1 hu2 (by simp only [List.mem_cons, not_or]; exact ⟨hu4, hu3⟩)
  exact ⟨this.1 v (by simp), this.2⟩
theorem MI.done {adj : Nat → Nat → Bool} {W to v d : Nat} {F q : List Nat} (h : MI adj W to v d F q) (hv : ∀ w, adj v w = true → F.getD w 0 < W ∧ F.getD w 0 ≤ d + 1) : QI adj W to F q := by
  refine ⟨h.b, h.s, fun u hu x hx => ?_, fun u hu1 hu2 hu3 => ?_⟩
  · have a := h.qd u hu
    have b := h.qd x hx
    omega
  · by_cases huv : u = v
    · subst huv
      refine ⟨fun x hx => ?_, fun w hw => ?_⟩
      · have := h.qd x hx; have := h.cv.2.2.1; omega
      · have := hv w hw; have := h.cv.2.2.1; omega
    · have h5 := h.dn u hu1 hu2 hu3 huv
      exact ⟨fun x hx => by have := h.qd x hx; omega, h5.2⟩
theorem QI.step {adj : Nat → Nat → Bool} {W to v : Nat} {F q : List Nat} {nb : Nat → List Nat} (hnb : ∀ v, v < W → ∀ w, w ∈ nb v ↔ adj v w = true) (hadj : ∀ v w, adj v w = true → w < W) (h : QI adj W to F (v :: q)) :
    QI adj W to ((nb v).foldl (vis W v) (F, q)).1 ((nb v).foldl (vis W v) (F, q)).2 ∧ cntW W ((nb v).foldl (vis W v) (F, q)).1 + ((nb v).foldl (vis W v) (F, q)).2.length = cntW W F + q.length := by
  have hv := (h.b.qv v (by simp)).1
  have hf := vis_fold (nb v) F q h.pop fun w hw => by have := (hnb v hv w).1 hw; exact ⟨hadj v w this, this⟩
  exact ⟨hf.1.done fun w hw => hf.2.1 w ((hnb v hv w).2 hw), hf.2.2.2⟩
theorem QI.zero {adj : Nat → Nat → Bool} {W to : Nat} (ht : to < W) : QI adj W to (farZ W to) [to] := by
  have hl : to < (List.replicate W W).length := by simpa using ht
  have hs : (farZ W to).getD to 0 = 0 := getD_set_self hl
  have hne : ∀ i, i < W → i ≠ to → (farZ W to).getD i 0 = W := fun i hi h => by
    unfold farZ; rw [getD_set_ne (fun e => h e.symm), List.getD_eq_getElem?_getD, List.getElem?_replicate, if_pos hi]; rfl
  refine ⟨⟨by simp [farZ], fun i hi => ?_, ⟨ht, hs, by omega⟩, fun w hw hwW => ?_, fun v hv => ?_, by simp⟩, by simp, fun u hu x hx => ?_, fun u hu1 hu2 hu3 => ?_⟩
  · by_cases h : i = to
    · subst h; rw [hs]; omega
    · rw [hne i hi h]; exact Nat.le_refl _
  · by_cases h : w = to
    · subst h; exact .inl ⟨hs, rfl⟩
    · rw [hne w hw h] at hwW; omega
  · simp at hv; subst hv; rw [hs]; exact ⟨ht, by omega⟩
  · simp at hu hx; subst hu hx; omega
  · simp at hu3; rw [hne u hu1 hu3] at hu2; omega
/-- What holds at the end. -/
structure Fin (adj : Nat → Nat → Bool) (W to : Nat) (F : List Nat) : Prop where
  b : BI adj W to F []
  dn : ∀ u, u < W → F.getD u 0 < W → ∀ w, adj u w = true → F.getD w 0 < W ∧ F.getD w 0 ≤ F.getD u 0 + 1
theorem bfs_fin {adj : Nat → Nat → Bool} {W to : Nat} {nb : Nat → List Nat} (hnb : ∀ v, v < W → ∀ w, w ∈ nb v ↔ adj v w = true) (hadj : ∀ v w, adj v w = true → w < W) : ∀ (n : Nat) (F q : List Nat), QI adj W to F q → cntW W F + q.length ≤ n → Fin adj W to (bfs W nb n F q)
  | 0, F, q, h, hn => by
    have : q = [] := List.eq_nil_of_length_eq_zero (by omega)
    subst this
    exact ⟨h.b, fun u h1 h2 => (h.dn u h1 h2 (by simp)).2⟩
  | n + 1, F, [], h, hn => ⟨h.b, fun u h1 h2 => (h.dn u h1 h2 (by simp)).2⟩
  | n + 1, F, v :: q, h, hn => by
    have hs := h.step hnb hadj
    rw [bfs]
    exact bfs_fin hnb hadj n _ _ hs.1 (by rw [hs.2]; simp only [List.length_cons] at hn; omega)
theorem Fin.dist {adj : Nat → Nat → Bool} {W to : Nat} {F : List Nat} (h : Fin adj W to F) : Dist adj W to F := by
  have hlt : ∀ (i x : Nat), F[i]? = some x → i < W ∧ F.getD i 0 = x := fun i x hx => ⟨by rw [← h.b.len]; exact (List.getElem?_eq_some_iff.1 hx).1, getD_some hx⟩
  have is : ∀ (k i : Nat), i < W → F.getD i 0 = k → k < W → Rch adj W to k i := by
    intro k
    induction k with
    | zero =>
      intro i hi hk _
      rcases h.b.lv i hi (by omega) with ⟨_, h0⟩ | ⟨v, _, _, h3⟩
      · exact h0
      · omega
    | succ k ih =>
      intro i hi hk hkW
      rcases h.b.lv i hi (by omega) with ⟨h0, _⟩ | ⟨v, h1, h2, h3⟩
      · omega
      · exact ⟨v, h1, ih v h1 (by omega) (by omega), h2⟩
  have ub : ∀ (k i : Nat), k < W → Rch adj W to k i → F.getD i 0 ≤ k := by
    intro k
    induction k with
    | zero => intro i _ hr; have : i = to := hr; subst this; have := h.b.z.2.1; omega
    | succ k ih =>
      intro i hk hr
      obtain ⟨v, h1, h2, h3⟩ := hr
      have := ih v (by omega) h2
      have := h.dn v h1 (by omega) i h3
      omega
  exact ⟨h.b.len, fun i x hx => by have := hlt i x hx; have := h.b.le i this.1; omega, fun i x hx hxW => is x i (hlt i x hx).1 (hlt i x hx).2 hxW, fun k i x hx hk hr => by have := ub k i hk hr; have := (hlt i x hx).2; omega⟩
/-- The queue and the rounds find the same. -/
theorem bfs_far {adj : Nat → Nat → Bool} {W to : Nat} {nb : Nat → List Nat} (ht : to < W) (hnb : ∀ v, v < W → ∀ w, w ∈ nb v ↔ adj v w = true) (hadj : ∀ v w, adj v w = true → w < W) : bfs W nb (W + 1) (farZ W to) [to] = farR adj W to ∧ Fin adj W to (farR adj W to) := by
  have e0 : (farZ W to).length = W := by simp [farZ]
  have e1 := cntW_le W (farZ W to)
  have h := bfs_fin hnb hadj (W + 1) _ _ (QI.zero (adj := adj) ht) (by simp only [List.length_cons, List.length_nil]; omega)
  have e := h.dist.one (farR_dist ht hadj)
  exact ⟨e, by rw [← e]; exact h⟩
end Go.Trial
