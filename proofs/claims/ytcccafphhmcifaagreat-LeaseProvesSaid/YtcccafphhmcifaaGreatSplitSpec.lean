/-
  Layer 11 in plain Lean: an amount in parts, by weights; who gets what rounding left. No program in sight.
-/
import Derived.Test.YtcccafphhmcifaaGreatDueSpec
set_option linter.unusedVariables false
set_option linter.unusedSimpArgs false
namespace Go.Lease
open Go Go.Abs

/-! ### One part, bit by bit -/

theorem part_step {a w whole : Int} (hw : 0 < whole) {A A' : Int} (hA : A = 2 * A' + A % 2) :
    2 * (A' * w / whole) + (2 * (A' * w % whole) + if A % 2 = 1 then w else 0) / whole = A * w / whole ∧ (2 * (A' * w % whole) + if A % 2 = 1 then w else 0) % whole = A * w % whole := by
  have h1 : A * w = (2 * (A' * w % whole) + if A % 2 = 1 then w else 0) + 2 * (A' * w / whole) * whole := by
    have h2 := Int.mul_ediv_add_emod (A' * w) whole
    have h3 : A * w = 2 * (A' * w) + (if A % 2 = 1 then w else 0) := by
      conv => lhs; rw [hA, Int.add_mul, Int.mul_assoc]
      split
      · rename_i h; rw [h, Int.one_mul]
      · rename_i h; rw [show A % 2 = 0 by omega, Int.zero_mul]
    have h4 : 2 * (A' * w / whole) * whole = 2 * (whole * (A' * w / whole)) := by rw [Int.mul_assoc, Int.mul_comm whole]
    omega
  constructor
  · conv => rhs; rw [h1, Int.add_mul_ediv_right _ _ (by omega)]
    omega
  · conv => rhs; rw [h1, Int.add_mul_emod_self_right]
theorem half_next (a : Int) (h : 0 ≤ a) (b : Nat) : a / 2 ^ b = 2 * (a / 2 ^ (b + 1)) + a / 2 ^ b % 2 := by
  have : a / 2 ^ (b + 1) = a / 2 ^ b / 2 := by
    rw [Int.pow_succ, Int.ediv_ediv_of_nonneg (Int.pow_nonneg (by decide))]
  rw [this]
  omega
theorem q_bd {A w whole : Int} (hw : 0 < whole) (h0 : 0 ≤ A) (h1 : 0 ≤ w) (h2 : w ≤ whole) : 0 ≤ A * w / whole ∧ A * w / whole ≤ A := by
  refine ⟨Int.ediv_nonneg (Int.mul_nonneg h0 h1) (by omega), ?_⟩
  have := Int.mul_le_mul_of_nonneg_left h2 h0
  calc A * w / whole ≤ A * whole / whole := Int.ediv_le_ediv hw this
    _ = A := Int.mul_ediv_cancel _ (by omega)
theorem r_bd {A w whole : Int} (hw : 0 < whole) : 0 ≤ A * w % whole ∧ A * w % whole < whole := ⟨Int.emod_nonneg _ (by omega), Int.emod_lt_of_pos _ hw⟩
theorem big_zero {a : Int} (h : 0 ≤ a ∧ a ≤ 1000000000000) {b : Nat} (hb : 40 ≤ b) : a / 2 ^ b = 0 := by
  have h1 : (2 : Int) ^ 40 ≤ 2 ^ b := by
    have : (2 : Nat) ^ 40 ≤ 2 ^ b := Nat.pow_le_pow_right (by decide) hb
    exact_mod_cast this
  exact Int.ediv_eq_zero_of_lt h.1 (by have : (2 : Int) ^ 40 = 1099511627776 := by decide
                                       omega)

/-! ### Ranks -/

def keyN (ks : List Int) (i : Nat) : Int := ks.getD i 0
/-- Is one ahead of another one? -/
def bef (ks : List Int) (i j : Nat) : Prop := keyN ks j < keyN ks i ∨ (keyN ks i = keyN ks j ∧ i < j)
/-- A new one is moved left from place j. -/
def insJ (ks : List Int) (l : List Nat) (x : Nat) : Nat → List Nat
  | 0 => x :: l
  | j + 1 => if keyN ks (l.getD j 0) < keyN ks x then insJ ks l x j else l.take (j + 1) ++ x :: l.drop (j + 1)
def rankL (ks : List Int) : Nat → List Nat
  | 0 => []
  | n + 1 => insJ ks (rankL ks n) n n
theorem insJ_ok {ks : List Int} {l : List Nat} {x : Nat} (hs : l.Pairwise (bef ks)) (hx : ∀ a ∈ l, a < x) : ∀ j, j ≤ l.length → (∀ a ∈ l.drop j, keyN ks a < keyN ks x) →
    (insJ ks l x j).Pairwise (bef ks) ∧ (insJ ks l x j).Perm (x :: l)
  | 0, _, h => by
    simp only [insJ, List.drop_zero] at h ⊢
    exact ⟨List.pairwise_cons.2 ⟨fun a ha => .inl (h a ha), hs⟩, .refl _⟩
  | j + 1, hj, h => by
    have hjl : j < l.length := by omega
    have hg : l.getD j 0 = l[j] := by simp [List.getD_eq_getElem?_getD, hjl]
    rw [insJ, hg]
    split
    · rename_i hk
      refine insJ_ok hs hx j (by omega) fun a ha => ?_
      rw [List.drop_eq_getElem_cons hjl] at ha
      rcases List.mem_cons.1 ha with rfl | ha
      · exact hk
      · exact h a ha
    · rename_i hk
      have hsp : l.take (j + 1) ++ l.drop (j + 1) = l := List.take_append_drop ..
      have hs2 := hs
      rw [← hsp, List.pairwise_append] at hs2
      refine ⟨?_, ?_⟩
      · rw [List.pairwise_append]
        refine ⟨hs2.1, List.pairwise_cons.2 ⟨fun a ha => .inl (h a ha), hs2.2.1⟩, fun a ha b hb => ?_⟩
        rcases List.mem_cons.1 hb with rfl | hb
        · have hax := hx a (List.mem_of_mem_take ha)
          have hka : keyN ks l[j] ≤ keyN ks a := by
            have h3 := hs2.1
            rw [List.take_succ_eq_append_getElem hjl] at ha h3
            rw [List.pairwise_append] at h3
            rcases List.mem_append.1 ha with ha | ha
            · rcases h3.2.2 a ha l[j] (by simp) with h4 | h4
              · omega
              · omega
            · simp at ha; subst ha; exact Int.le_refl _
          unfold bef
          omega
        · exact hs2.2.2 a ha b hb
      · have h5 : (l.take (j + 1) ++ x :: l.drop (j + 1)).Perm (x :: (l.take (j + 1) ++ l.drop (j + 1))) := List.perm_middle
        rwa [hsp] at h5
theorem rankL_ok (ks : List Int) : ∀ n, (rankL ks n).Pairwise (bef ks) ∧ (rankL ks n).Perm (List.range n)
  | 0 => ⟨.nil, by simp [rankL]⟩
  | n + 1 => by
    have ih := rankL_ok ks n
    have hlen : (rankL ks n).length = n := by rw [ih.2.length_eq, List.length_range]
    have hlt : ∀ a ∈ rankL ks n, a < n := fun a ha => List.mem_range.1 (ih.2.mem_iff.1 ha)
    have h := insJ_ok ih.1 hlt n (by omega) (by rw [List.drop_eq_nil_of_le (by omega)]; simp)
    refine ⟨h.1, h.2.trans ?_⟩
    rw [List.range_succ]
    exact (ih.2.cons n).trans (List.perm_append_singleton n _).symm
theorem rankL_len (ks : List Int) (n : Nat) : (rankL ks n).length = n := by rw [(rankL_ok ks n).2.length_eq, List.length_range]
theorem rankL_lt {ks : List Int} {n a : Nat} (h : a ∈ rankL ks n) : a < n := List.mem_range.1 ((rankL_ok ks n).2.mem_iff.1 h)
theorem rankL_nodup (ks : List Int) (n : Nat) : (rankL ks n).Nodup := (rankL_ok ks n).2.nodup_iff.2 List.nodup_range
theorem insJ_len (ks : List Int) (l : List Nat) (x : Nat) : ∀ j, j ≤ l.length → (insJ ks l x j).length = l.length + 1
  | 0, _ => rfl
  | j + 1, h => by
    rw [insJ]
    split
    · exact insJ_len ks l x j (by omega)
    · simp; omega

/-! ### Chosen one after the other -/

/-- The best of those that are not used: the first of the greatest. -/
def bestU (ks : List Int) (us : List Nat) : Nat → Nat → Int → Int
  | 0, _, best => best
  | n + 1, i, best => bestU ks us n (i + 1) (if i ∉ us ∧ (best < 0 ∨ keyN ks best.toNat < keyN ks i) then (i : Int) else best)
theorem bestU_ok {ks : List Int} {us : List Nat} {m N : Nat} (hm : m < N) (hu : m ∉ us) (hb : ∀ j, j < N → j ∉ us → j ≠ m → bef ks m j) : ∀ (n i : Nat) (best : Int), i + n = N →
    (m < i → best = m) → (i ≤ m → best = -1 ∨ ∃ b : Nat, best = b ∧ b < i ∧ b ∉ us) → bestU ks us n i best = m
  | 0, i, best, hi, h1, h2 => h1 (by omega)
  | n + 1, i, best, hi, h1, h2 => by
    rw [bestU]
    refine bestU_ok hm hu hb n (i + 1) _ (by omega) (fun h => ?_) (fun h => ?_)
    · by_cases him : i = m
      · subst him
        rcases h2 (Nat.le_refl _) with h3 | ⟨b, h3, h4, h5⟩
        · rw [if_pos ⟨hu, .inl (by omega)⟩]
        · have h6 := hb b (by omega) h5 (by omega)
          have h7 : keyN ks b < keyN ks i := by
            rcases h6 with h6 | h6
            · exact h6
            · omega
          rw [if_pos ⟨hu, .inr (by rw [h3]; exact h7)⟩]
      · have h3 := h1 (by omega)
        rw [if_neg]
        · exact h3
        · rintro ⟨h4, h5⟩
          have h6 := hb i (by omega) h4 him
          rw [h3] at h5
          rcases h5 with h5 | h5
          · omega
          · simp only [Int.toNat_natCast] at h5
            rcases h6 with h6 | h6 <;> omega
    · by_cases hc : i ∉ us ∧ (best < 0 ∨ keyN ks best.toNat < keyN ks i)
      · rw [if_pos hc]
        exact .inr ⟨i, rfl, by omega, hc.1⟩
      · rw [if_neg hc]
        rcases h2 (by omega) with h3 | ⟨b, h3, h4, h5⟩
        · exact .inl h3
        · exact .inr ⟨b, h3, by omega, h5⟩
/-- What is chosen at last is the next one in rank. -/
theorem best_rank {ks : List Int} {n k x : Nat} (hk : (rankL ks n)[k]? = some x) : bestU ks ((rankL ks n).take k) n 0 (-1) = x := by
  have h1 := rankL_ok ks n
  have hx : k < (rankL ks n).length := (List.getElem?_eq_some_iff.1 hk).1
  have hxe := (List.getElem?_eq_some_iff.1 hk).2
  have hxn := rankL_lt (List.mem_of_getElem? hk)
  have hsp : rankL ks n = (rankL ks n).take k ++ x :: (rankL ks n).drop (k + 1) := by
    rw [← hxe, ← List.drop_eq_getElem_cons hx, List.take_append_drop]
  have hnd := rankL_nodup ks n
  have hp := h1.1
  rw [hsp] at hnd hp
  rw [List.nodup_append] at hnd
  rw [List.pairwise_append, List.pairwise_cons] at hp
  refine bestU_ok hxn (fun h => hnd.2.2 x h x (by simp) rfl) (fun j hj hju hjx => ?_) n 0 (-1) (by omega) (fun h => by omega) (fun _ => .inl rfl)
  have hjm : j ∈ rankL ks n := h1.2.mem_iff.2 (List.mem_range.2 hj)
  rw [hsp] at hjm
  rcases List.mem_append.1 hjm with h | h
  · exact absurd h hju
  · rcases List.mem_cons.1 h with h | h
    · exact absurd h hjx
    · exact hp.2.1.1 j h

/-! ### The parts -/

def incAt (l : List Int) (i : Nat) : List Int := l.set i (l.getD i 0 + 1)
def incs (l : List Int) (is : List Nat) : List Int := is.foldl incAt l
theorem incAt_len (l : List Int) (i : Nat) : (incAt l i).length = l.length := by simp [incAt]
theorem incs_len : ∀ (is : List Nat) (l : List Int), (incs l is).length = l.length
  | [], l => rfl
  | i :: is, l => by rw [incs, List.foldl_cons]; exact (incs_len is (incAt l i)).trans (incAt_len l i)
theorem incs_snoc (l : List Int) (is : List Nat) (i : Nat) : incs l (is ++ [i]) = incAt (incs l is) i := by simp [incs]
theorem sum_incAt : ∀ {l : List Int} {i : Nat}, i < l.length → sumI (incAt l i) = sumI l + 1
  | [], i, h => by simp at h
  | x :: l, 0, _ => by simp [incAt, sumI]; omega
  | x :: l, i + 1, h => by
    have ih := sum_incAt (l := l) (i := i) (by simpa using h)
    simp only [incAt, List.set_cons_succ, sumI, List.getD_cons_succ] at ih ⊢
    omega
theorem sum_incs : ∀ (is : List Nat) (l : List Int), (∀ i ∈ is, i < l.length) → sumI (incs l is) = sumI l + is.length
  | [], l, _ => by simp [incs]
  | i :: is, l, h => by
    have ih := sum_incs is (incAt l i) (fun j hj => by rw [incAt_len]; exact h j (by simp [hj]))
    have h1 := sum_incAt (h i (by simp))
    simp only [incs, List.foldl_cons, List.length_cons] at ih ⊢
    omega
theorem incs_get : ∀ (is : List Nat) (l : List Int) (i : Nat) (x : Int), is.Nodup → l[i]? = some x → (incs l is)[i]? = some (x + if i ∈ is then 1 else 0)
  | [], l, i, x, _, h => by simp [incs, h]
  | j :: is, l, i, x, hn, h => by
    rw [List.nodup_cons] at hn
    have hi : i < l.length := (List.getElem?_eq_some_iff.1 h).1
    rw [incs, List.foldl_cons]
    by_cases hj : j = i
    · subst hj
      have h1 : (incAt l j)[j]? = some (x + 1) := by rw [incAt, List.getElem?_set_self hi, List.getD_eq_getElem?_getD, h]; rfl
      have := incs_get is (incAt l j) j _ hn.2 h1
      rw [if_neg hn.1] at this
      rw [if_pos (by simp)]
      simpa [incs] using this
    · have h1 : (incAt l j)[i]? = some x := by simp [incAt, List.getElem?_set, hj, h]
      have := incs_get is (incAt l j) i _ hn.2 h1
      rw [incs] at this
      rw [this]
      have h2 : (i ∈ j :: is) ↔ i ∈ is := by simp [Ne.symm hj]
      simp only [h2]
def splitQ (a whole : Int) (ws : List Int) : List Int := ws.map fun w => a * w / whole
def splitR (a whole : Int) (ws : List Int) : List Int := ws.map fun w => a * w % whole
def restI (a : Int) (ws : List Int) : Int := a - sumI (splitQ a (sumI ws) ws)
def rankS (a : Int) (ws : List Int) : List Nat := (rankL (splitR a (sumI ws) ws) ws.length).take (restI a ws).toNat
def splitL (a : Int) (ws : List Int) : List Int := incs (splitQ a (sumI ws) ws) (rankS a ws)
def wsOk (ws : List Int) : Bool := inn ws.length 1 8 && (allB ws (fun n => inn n 0 1000000000000) && decide (0 < sumI ws))
theorem wsOk_iff {ws : List Int} : wsOk ws = true ↔ (1 ≤ (ws.length : Int) ∧ (ws.length : Int) ≤ 8) ∧ (∀ w ∈ ws, 0 ≤ w ∧ w ≤ 1000000000000) ∧ 0 < sumI ws := by
  simp only [wsOk, Bool.and_eq_true, inn_iff, allB_iff, decide_eq_true_eq]
theorem qr_sum (a whole : Int) : ∀ ws : List Int, a * sumI ws = whole * sumI (splitQ a whole ws) + sumI (splitR a whole ws)
  | [] => by simp [sumI, splitQ, splitR]
  | w :: ws => by
    have ih := qr_sum a whole ws
    have h1 := Int.mul_ediv_add_emod (a * w) whole
    simp only [sumI, splitQ, splitR, List.map_cons, Int.mul_add] at ih ⊢
    omega
theorem rest_ok {a : Int} {ws : List Int} (hw : 0 < sumI ws) : sumI ws * restI a ws = sumI (splitR a (sumI ws) ws) ∧ 0 ≤ restI a ws ∧ restI a ws ≤ ws.length := by
  have h1 := qr_sum a (sumI ws) ws
  have h2 : sumI ws * restI a ws = sumI (splitR a (sumI ws) ws) := by
    unfold restI
    rw [Int.mul_sub, Int.mul_comm (sumI ws) a]
    omega
  have h3 := sumI_bd (lo := 0) (hi := sumI ws) (l := splitR a (sumI ws) ws) fun x hx => by
    simp only [splitR, List.mem_map] at hx
    obtain ⟨w, _, rfl⟩ := hx
    have := r_bd (A := a) (w := w) hw
    omega
  have h4 : (splitR a (sumI ws) ws).length = ws.length := by simp [splitR]
  rw [h4, ← h2] at h3
  refine ⟨h2, ?_, ?_⟩
  · apply Classical.byContradiction; intro hn
    have : sumI ws * restI a ws ≤ sumI ws * (-1) := Int.mul_le_mul_of_nonneg_left (by omega) (by omega)
    omega
  · exact Int.le_of_mul_le_mul_left h3.2 hw
theorem sumI_perm {a b : List Int} (h : a.Perm b) : sumI a = sumI b := by
  induction h with
  | nil => rfl
  | cons x _ ih => simp only [sumI, ih]
  | swap x y l => simp only [sumI]; omega
  | trans _ _ h1 h2 => rw [h1, h2]
theorem map_key (ks : List Int) : (List.range ks.length).map (keyN ks) = ks := by
  apply List.ext_getElem
  · simp
  · intro i h1 h2
    simp [keyN, List.getD_eq_getElem?_getD, h2]
/-- Who gets one more had something left. -/
theorem rank_pos {a : Int} {ws : List Int} (hw : 0 < sumI ws) {i : Nat} (hi : i ∈ rankS a ws) : 0 < keyN (splitR a (sumI ws) ws) i := by
  obtain ⟨h1, h2, h3⟩ := rest_ok (a := a) hw
  generalize hks : splitR a (sumI ws) ws = ks at *
  have hlen : ks.length = ws.length := by rw [← hks]; simp [splitR]
  have hkb : ∀ x ∈ ks, 0 ≤ x ∧ x ≤ sumI ws - 1 := fun x hx => by
    rw [← hks] at hx
    simp only [splitR, List.mem_map] at hx
    obtain ⟨w, _, rfl⟩ := hx
    have := r_bd (A := a) (w := w) hw
    omega
  have hkn : ∀ j, 0 ≤ keyN ks j ∧ keyN ks j ≤ sumI ws - 1 := fun j => by
    unfold keyN
    rw [List.getD_eq_getElem?_getD]
    cases hj : ks[j]? with
    | none => simp; omega
    | some x => exact hkb x (List.mem_of_getElem? hj)
  unfold rankS at hi
  rw [hks] at hi
  obtain ⟨k, hk⟩ := List.getElem?_of_mem hi
  have hk1 : k < (restI a ws).toNat := by
    have := (List.getElem?_eq_some_iff.1 hk).1
    simp at this; omega
  rw [List.getElem?_take_of_lt hk1] at hk
  have hp := (rankL_ok ks ws.length).1
  have hperm := (rankL_ok ks ws.length).2
  have hkl : k < (rankL ks ws.length).length := (List.getElem?_eq_some_iff.1 hk).1
  have hke := (List.getElem?_eq_some_iff.1 hk).2
  apply Classical.byContradiction; intro hn
  have h0 : keyN ks i = 0 := by have := hkn i; omega
  have hsum : sumI ks = sumI ((rankL ks ws.length).map (keyN ks)) := by
    rw [sumI_perm (hperm.map (keyN ks)), ← hlen, map_key]
  have hsp : rankL ks ws.length = (rankL ks ws.length).take k ++ i :: (rankL ks ws.length).drop (k + 1) := by
    rw [← hke, ← List.drop_eq_getElem_cons hkl, List.take_append_drop]
  rw [hsp, List.pairwise_append, List.pairwise_cons] at hp
  rw [hsp, List.map_append, sumI_app, List.map_cons] at hsum
  have hA := sumI_bd (lo := 0) (hi := sumI ws - 1) (l := ((rankL ks ws.length).take k).map (keyN ks)) fun x hx => by
    simp only [List.mem_map] at hx
    obtain ⟨j, _, rfl⟩ := hx
    exact hkn j
  have hB := sumI_bd (lo := 0) (hi := 0) (l := ((rankL ks ws.length).drop (k + 1)).map (keyN ks)) fun x hx => by
    simp only [List.mem_map] at hx
    obtain ⟨j, hj, rfl⟩ := hx
    have h5 := hkn j
    rcases hp.2.1.1 j hj with h6 | h6 <;> omega
  have hlk : ((rankL ks ws.length).take k).length = k := by simp; omega
  simp only [List.length_map, sumI, hlk] at hA hB hsum
  have h7 : sumI ws * (k + 1) ≤ sumI ws * restI a ws := Int.mul_le_mul_of_nonneg_left (by omega) (by omega)
  have h8 : (sumI ws - 1) * (k : Int) ≤ sumI ws * k := Int.mul_le_mul_of_nonneg_right (by omega) (by omega)
  rw [Int.mul_add, Int.mul_one] at h7
  omega
end Go.Lease
