/-
  Layer 11 in plain Lean: plans, the cheapest, what a table proves, the year that is short. No program in sight.
-/
import Derived.Test.YtcccafphhmcifaaGreatDrillSpec
set_option linter.unusedVariables false
set_option linter.unusedSimpArgs false
namespace Go.Lease
open Go Go.Abs

def folIs (p : Pg) : List Yr → List Int → Int → Bool
  | y :: ys, k :: ks, now => decide (y.need ≤ now + k * p.gain) && folIs p ys ks (aft p now k)
  | _, _, _ => true
def folCost (p : Pg) : List Yr → List Int → Int → Int
  | y :: ys, k :: ks, now => k * y.price + folCost p ys ks (aft p now k)
  | _, _, _ => 0
def folCaps (p : Pg) : List Yr → List Int → Int → List Int
  | y :: ys, k :: ks, now => (now + k * p.gain) :: folCaps p ys ks (aft p now k)
  | _, _, _ => []
def numOk (p : Pg) (ks : List Int) : Bool := allB ks (fun k => inn k 0 p.most)
def planOk (p : Pg) (ks : List Int) : Bool := decide (ks.length = p.l.length) && numOk p ks
theorem numOk_iff {p : Pg} {ks : List Int} : numOk p ks = true ↔ ∀ k ∈ ks, 0 ≤ k ∧ k ≤ p.most := by simp only [numOk, allB_iff, inn_iff]
theorem planOk_iff {p : Pg} {ks : List Int} : planOk p ks = true ↔ ks.length = p.l.length ∧ ∀ k ∈ ks, 0 ≤ k ∧ k ≤ p.most := by
  simp only [planOk, Bool.and_eq_true, decide_eq_true_eq, numOk_iff]
/-- No plan costs less than the least. -/
theorem fol_le {p : Pg} (hm : 0 ≤ p.most) : ∀ (ys : List Yr) (ks : List Int) (now : Int), ks.length = ys.length → (∀ k ∈ ks, 0 ≤ k ∧ k ≤ p.most) → folIs p ys ks now = true → leastF p ys now ≤ folCost p ys ks now
  | [], [], _, _, _, _ => Int.le_refl _
  | y :: ys, k :: ks, now, hl, hk, h => by
    simp only [folIs, Bool.and_eq_true, decide_eq_true_eq] at h
    have h1 := hk k (by simp)
    have ih := fol_le hm ys ks (aft p now k) (by simpa using hl) (fun x hx => hk x (by simp [hx])) h.2
    have h2 := leastW_at (p := p) (y := y) (g := leastF p ys) h1.1 h1.2 h.1
    simp only [folCost, leastF]
    omega
  | [], _ :: _, _, hl, _, _ => by simp at hl
  | _ :: _, [], _, hl, _, _ => by simp at hl
theorem price_bd {k pr : Int} (hk : 0 ≤ k ∧ k ≤ 3) (hp : 0 ≤ pr ∧ pr ≤ 1000000) : 0 ≤ k * pr ∧ k * pr ≤ 3000000 :=
  ⟨Int.mul_nonneg hk.1 hp.1, Int.le_trans (Int.mul_le_mul_of_nonneg_right hk.2 hp.1) (Int.mul_le_mul_of_nonneg_left hp.2 (by decide))⟩
theorem folCost_bd {p : Pg} : ∀ (ys : List Yr) (ks : List Int) (now : Int), (∀ k ∈ ks, 0 ≤ k ∧ k ≤ 3) → (∀ y ∈ ys, yrOk y = true) → 0 ≤ folCost p ys ks now ∧ folCost p ys ks now ≤ 3000000 * ys.length
  | [], ks, _, _, _ => by cases ks <;> simp [folCost]
  | y :: ys, [], _, _, _ => by simp only [folCost, List.length_cons]; omega
  | y :: ys, k :: ks, now, hk, hy => by
    have ih := folCost_bd (p := p) ys ks (aft p now k) (fun x hx => hk x (by simp [hx])) (fun x hx => hy x (by simp [hx]))
    have h1 := price_bd (hk k (by simp)) (yrOk_iff.1 (hy y (by simp))).2
    simp only [folCost, List.length_cons]
    omega

/-! ### The first plan with the least cost -/

def firstK (p : Pg) (y : Yr) (g : Int → Int) (c best : Int) : Nat → Int → Int
  | 0, k => k
  | n + 1, k => if y.need ≤ c + k * p.gain ∧ k * y.price + g (aft p c k) = best then k else firstK p y g c best n (k + 1)
def drillK (p : Pg) (y : Yr) (ys : List Yr) (c : Int) : Int := firstK p y (leastF p ys) c (leastF p (y :: ys) c) (p.most.toNat + 1) 0
def drillL (p : Pg) : List Yr → Int → List Int
  | [], _ => []
  | y :: ys, now => drillK p y ys now :: drillL p ys (aft p now (drillK p y ys now))
theorem firstK_ok {p : Pg} {y : Yr} {g : Int → Int} {c best : Int} : ∀ (n : Nat) (k j : Int), k ≤ j → j < k + n → (y.need ≤ c + j * p.gain ∧ j * y.price + g (aft p c j) = best) →
    k ≤ firstK p y g c best n k ∧ firstK p y g c best n k < k + n ∧ (y.need ≤ c + firstK p y g c best n k * p.gain ∧ firstK p y g c best n k * y.price + g (aft p c (firstK p y g c best n k)) = best)
  | 0, k, j, h1, h2, _ => by omega
  | n + 1, k, j, h1, h2, h3 => by
    rw [firstK]
    split
    · rename_i h
      exact ⟨Int.le_refl _, by omega, h⟩
    · rename_i h
      have hne : j ≠ k := by rintro rfl; exact h h3
      have ih := firstK_ok n (k + 1) j (by omega) (by omega) h3
      exact ⟨by omega, by omega, ih.2.2⟩
theorem drillK_ok {p : Pg} (hm : 0 ≤ p.most) {y : Yr} {ys : List Yr} {c : Int} (h : leastF p (y :: ys) c < never) :
    0 ≤ drillK p y ys c ∧ drillK p y ys c ≤ p.most ∧ y.need ≤ c + drillK p y ys c * p.gain ∧ drillK p y ys c * y.price + leastF p ys (aft p c (drillK p y ys c)) = leastF p (y :: ys) c := by
  rcases leastW_is (p := p) (y := y) (g := leastF p ys) (c := c) hm with h1 | ⟨j, h1, h2, h3, h4⟩
  · simp only [leastF] at h; omega
  · have := firstK_ok (p := p) (y := y) (g := leastF p ys) (c := c) (best := leastF p (y :: ys) c) (p.most.toNat + 1) 0 j h1 (by omega) ⟨h3, h4.symm⟩
    unfold drillK
    exact ⟨this.1, by omega, this.2.2.1, this.2.2.2⟩
theorem drill_next {p : Pg} (hm : 0 ≤ p.most) {y : Yr} (hy : 0 ≤ y.price) {ys : List Yr} {c : Int} (h : leastF p (y :: ys) c < never) : leastF p ys (aft p c (drillK p y ys c)) < never := by
  have h1 := drillK_ok hm h
  have := Int.mul_nonneg h1.1 hy
  omega
theorem drillL_ok {p : Pg} (hm : 0 ≤ p.most) : ∀ (ys : List Yr) (now : Int), (∀ y ∈ ys, yrOk y = true) → leastF p ys now < never →
    (drillL p ys now).length = ys.length ∧ (∀ k ∈ drillL p ys now, 0 ≤ k ∧ k ≤ p.most) ∧ folIs p ys (drillL p ys now) now = true ∧ folCost p ys (drillL p ys now) now = leastF p ys now
  | [], _, _, _ => by simp [drillL, folIs, folCost, leastF]
  | y :: ys, now, hy, h => by
    have h1 := drillK_ok hm h
    have ih := drillL_ok hm ys (aft p now (drillK p y ys now)) (fun x hx => hy x (by simp [hx])) (drill_next hm (yrOk_iff.1 (hy y (by simp))).2.1 h)
    refine ⟨by simp [drillL, ih.1], ?_, ?_, ?_⟩
    · intro k hk
      simp only [drillL, List.mem_cons] at hk
      rcases hk with rfl | hk
      · exact ⟨h1.1, h1.2.1⟩
      · exact ih.2.1 k hk
    · simp only [drillL, folIs, Bool.and_eq_true, decide_eq_true_eq]
      exact ⟨h1.2.2.1, ih.2.2.1⟩
    · simp only [drillL, folCost, ih.2.2.2]
      exact h1.2.2.2

/-! ### What a table proves -/

/-- A ladder of the right form. -/
def rungOk (r : Rn) : Bool := inn r.c 0 never
def rightL (l : List Rn) : Bool := allB l rungOk && steps l && inn l.length 1 70000 && decide (0 ≤ (l.headD ⟨-1, 0⟩).u) && decide ((l.getLastD ⟨-1, 0⟩).u = held)
/-- No rung of a year says more than the least. -/
def below (p : Pg) (y : Yr) (next l : List Rn) : Bool := allB l (fun r => decide (r.c ≤ leastW p y (costI next) r.u))
def belows (p : Pg) : List Yr → List (List Rn) → Bool
  | y :: ys, l :: ls => below p y (ls.headD [⟨held, 0⟩]) l && belows p ys ls
  | _, _ => true
def tableOk (p : Pg) (t : List (List Rn)) : Bool := decide (t.length = p.l.length) && (allB t rightL && belows p p.l t)
/-- A table shows that a plan is the cheapest. -/
def shows (p : Pg) (ks : List Int) (t : List (List Rn)) : Bool := planOk p ks && (tableOk p t && (folIs p p.l ks p.start && decide (costI (t.headD []) p.start = folCost p p.l ks p.start)))
theorem rightL_iff {l : List Rn} : rightL l = true ↔ (∀ r ∈ l, 0 ≤ r.c ∧ r.c ≤ never) ∧ steps l = true ∧ (1 ≤ (l.length : Int) ∧ (l.length : Int) ≤ 70000) ∧ 0 ≤ (l.headD ⟨-1, 0⟩).u ∧ (l.getLastD ⟨-1, 0⟩).u = held := by
  simp only [rightL, rungOk, Bool.and_eq_true, allB_iff, inn_iff, decide_eq_true_eq, and_assoc]
theorem costI_mono : ∀ {l : List Rn} {a b : Int}, steps l = true → a ≤ b → costI l b ≤ costI l a
  | [], _, _, _, _ => Int.le_refl _
  | [_], _, _, _, _ => Int.le_refl _
  | r :: s :: l, a, b, hs, h => by
    simp only [steps, Bool.and_eq_true, decide_eq_true_eq] at hs
    have ih := costI_mono (l := s :: l) hs.2.2 h
    simp only [costI]
    by_cases h1 : b ≤ r.u
    · rw [if_pos h1, if_pos (by omega)]; exact Int.le_refl _
    · rw [if_neg h1]
      by_cases h2 : a ≤ r.u
      · rw [if_pos h2]
        have : ∀ {l : List Rn} {s : Rn} {c : Int}, steps (s :: l) = true → costI (s :: l) c ≤ s.c := by
          intro l
          induction l with
          | nil => intro s c _; exact Int.le_refl _
          | cons t l ih =>
            intro s c hs
            simp only [steps, Bool.and_eq_true, decide_eq_true_eq] at hs
            simp only [costI]
            split
            · exact Int.le_refl _
            · have := ih (c := c) hs.2.2; omega
        have := this (c := b) hs.2.2
        omega
      · rw [if_neg h2]; exact ih
/-- What a ladder has for a capacity is what a rung above it has. -/
theorem costI_rung : ∀ {l : List Rn} {c : Int}, (∃ r, l.getLast? = some r ∧ c ≤ r.u) → ∃ r ∈ l, c ≤ r.u ∧ costI l c = r.c
  | [], c, ⟨r, h, _⟩ => by simp at h
  | [a], c, ⟨r, h, hc⟩ => by simp at h; subst h; exact ⟨a, by simp, hc, rfl⟩
  | a :: b :: l, c, ⟨r, h, hc⟩ => by
    simp only [costI]
    by_cases h1 : c ≤ a.u
    · rw [if_pos h1]; exact ⟨a, by simp, h1, rfl⟩
    · rw [if_neg h1]
      obtain ⟨x, hx, h2⟩ := costI_rung (l := b :: l) (c := c) ⟨r, by simpa using h, hc⟩
      exact ⟨x, by simp [hx], h2⟩
theorem leastW_le_g {p : Pg} {y : Yr} {g g' : Int → Int} {c : Int} (hm : 0 ≤ p.most) (h : ∀ j, 0 ≤ j → j ≤ p.most → g (aft p c j) ≤ g' (aft p c j)) : leastW p y g c ≤ leastW p y g' c := by
  rcases leastW_is (p := p) (y := y) (g := g') (c := c) hm with h1 | ⟨j, h1, h2, h3, h4⟩
  · rw [h1]; exact leastW_le
  · rw [h4]
    have := leastW_at (p := p) (y := y) (g := g) h1 h2 h3
    have := h j h1 h2
    omega
theorem aft_le {p : Pg} (hp : pgOk p = true) {c j : Int} (h0 : 0 ≤ c) (h1 : 0 ≤ j) (h2 : j ≤ p.most) : 0 ≤ aft p c j ∧ aft p c j ≤ c + 3000000 ∧ (0 ≤ j * p.gain ∧ j * p.gain ≤ 3000000) := by
  have hp1 := pgOk_iff.1 hp
  have h8 := price_bd (k := j) (pr := p.gain) ⟨h1, by omega⟩ ⟨by omega, by omega⟩
  have h9 : (c + j * p.gain) * p.keep ≤ (c + j * p.gain) * 1000 := Int.mul_le_mul_of_nonneg_left hp1.2.2.1.2 (by omega)
  refine ⟨aft_nonneg (by omega) (by omega) h0 h1, ?_, h8⟩
  unfold aft
  omega
/-- A right table says no more than the least. -/
theorem below_le {p : Pg} (hp : pgOk p = true) : ∀ (ys : List Yr) (t : List (List Rn)) (c : Int), t.length = ys.length → (∀ l ∈ t, rightL l = true) → belows p ys t = true → 0 ≤ c → c + 3000000 * ys.length ≤ held →
    costI (t.headD [⟨held, 0⟩]) c ≤ leastF p ys c
  | [], [], c, _, _, _, _, _ => by simp [costI, leastF]
  | y :: ys, l :: t, c, hl, hr, hb, h0, hc => by
    have hp1 := pgOk_iff.1 hp
    have hm := hp1.2.2.2.1.1
    simp only [belows, Bool.and_eq_true, below, allB_iff, decide_eq_true_eq] at hb
    have h1 := rightL_iff.1 (hr l (by simp))
    have hne : l ≠ [] := by rintro rfl; simp at h1
    simp only [List.length_cons] at hc hl
    obtain ⟨r, hr1, hr2, hr3⟩ := costI_rung (l := l) (c := c) ⟨l.getLast hne, List.getLast?_eq_some_getLast hne, by
      have : l.getLastD ⟨-1, 0⟩ = l.getLast hne := by rw [List.getLastD_eq_getLast?, List.getLast?_eq_some_getLast hne]; rfl
      rw [this] at h1
      omega⟩
    simp only [List.headD_cons]
    rw [hr3]
    refine Int.le_trans (hb.1 r hr1) ?_
    have hst : steps (t.headD [⟨held, 0⟩]) = true := by
      cases t with
      | nil => rfl
      | cons l' t => exact (rightL_iff.1 (hr l' (by simp))).2.1
    refine Int.le_trans (leastW_mono hm (by omega) hp1.2.2.1.1 (fun a b _ hab => costI_mono hst hab) h0 hr2) ?_
    refine leastW_le_g hm fun j h2 h3 => ?_
    have h4 := aft_le hp h0 h2 h3
    exact below_le hp ys t _ (by omega) (fun l hl => hr l (by simp [hl])) hb.2 h4.1 (by omega)
  | [], _ :: _, _, h, _, _, _, _ => by simp at h
  | _ :: _, [], _, h, _, _, _, _ => by simp at h
/-- A plan that a table shows to be the cheapest costs the least. -/
theorem shows_cost {p : Pg} (hp : pgOk p = true) {ks : List Int} {t : List (List Rn)} (h : shows p ks t = true) : folIs p p.l ks p.start = true ∧ folCost p p.l ks p.start = leastF p p.l p.start := by
  have hp1 := pgOk_iff.1 hp
  simp only [shows, tableOk, Bool.and_eq_true, decide_eq_true_eq, planOk_iff, allB_iff] at h
  obtain ⟨⟨h1, h2⟩, ⟨h3, h4, h5⟩, h6, h7⟩ := h
  refine ⟨h6, ?_⟩
  have h8 := fol_le hp1.2.2.2.1.1 p.l ks p.start h1 h2 h6
  have h9 := below_le hp p.l t p.start h3 h4 h5 hp1.1.1 (by simp only [held]; omega)
  have h10 : t.headD [] = t.headD [⟨held, 0⟩] := by
    cases t with
    | nil => simp at h3; omega
    | cons l t => rfl
  rw [h10] at h7
  omega

/-! ### How many rungs there are -/

def pathC (p : Pg) : List Yr → List Int
  | [] => [0]
  | y :: ys => (List.range (p.most.toNat + 1)).flatMap fun (k : Nat) => (pathC p ys).map fun c => (k : Int) * y.price + c
theorem leastF_path {p : Pg} (hm : 0 ≤ p.most) : ∀ (ys : List Yr) (c : Int), (∀ y ∈ ys, yrOk y = true) → leastF p ys c = never ∨ leastF p ys c ∈ pathC p ys
  | [], _, _ => .inr (by simp [leastF, pathC])
  | y :: ys, c, hy => by
    rcases leastW_is (p := p) (y := y) (g := leastF p ys) (c := c) hm with h1 | ⟨j, h1, h2, h3, h4⟩
    · exact .inl h1
    · rcases leastF_path hm ys (aft p c j) (fun z hz => hy z (by simp [hz])) with h5 | h5
      · left
        have h6 := leastW_le (p := p) (y := y) (g := leastF p ys) (c := c)
        have h7 := Int.mul_nonneg h1 (yrOk_iff.1 (hy y (by simp))).2.1
        simp only [leastF]
        omega
      · right
        simp only [pathC, List.mem_flatMap, List.mem_map, List.mem_range, leastF]
        refine ⟨j.toNat, by omega, _, h5, ?_⟩
        rw [h4]
        congr 1
        rw [Int.toNat_of_nonneg h1]
theorem pathC_len {p : Pg} (hm : p.most ≤ 3) : ∀ (ys : List Yr), (pathC p ys).length ≤ 4 ^ ys.length
  | [] => by simp [pathC]
  | y :: ys => by
    have ih := pathC_len hm ys
    have key : ∀ (l : List Nat), (l.flatMap fun (k : Nat) => (pathC p ys).map fun c => (k : Int) * y.price + c).length = l.length * (pathC p ys).length := fun l => by
      induction l with
      | nil => simp
      | cons a l ih => simp only [List.flatMap_cons, List.length_append, List.length_map, ih, List.length_cons, Nat.succ_mul]; omega
    rw [pathC, key, List.length_range, List.length_cons, Nat.pow_succ]
    calc (p.most.toNat + 1) * (pathC p ys).length ≤ 4 * (pathC p ys).length := Nat.mul_le_mul_right _ (by omega)
      _ ≤ 4 * 4 ^ ys.length := Nat.mul_le_mul_left _ ih
      _ = 4 ^ ys.length * 4 := Nat.mul_comm _ _
theorem steps_pw : ∀ {l : List Rn}, steps l = true → (l.map Rn.c).Pairwise (fun a b => b < a)
  | [], _ => by simp
  | [a], _ => by simp
  | a :: b :: l, h => by
    simp only [steps, Bool.and_eq_true, decide_eq_true_eq] at h
    have ih := steps_pw h.2.2
    rw [List.map_cons, List.pairwise_cons]
    refine ⟨fun x hx => ?_, ih⟩
    rw [List.map_cons, List.pairwise_cons] at ih
    rw [List.map_cons] at hx
    rcases List.mem_cons.1 hx with rfl | hx
    · exact h.2.1
    · have := ih.1 x hx; omega
theorem few_of : ∀ {l m : List Int}, l.Pairwise (fun a b => b < a) → (∀ x ∈ l, x ∈ m) → l.length ≤ m.length
  | [], m, _, _ => Nat.zero_le _
  | a :: l, m, h, hm => by
    rw [List.pairwise_cons] at h
    have ha := hm a (by simp)
    have ih := few_of (l := l) (m := m.erase a) h.2 fun x hx => by
      have h1 := h.1 x hx
      exact (List.mem_erase_of_ne (by omega)).2 (hm x (by simp [hx]))
    have := List.length_erase_of_mem ha
    have h3 := List.length_pos_of_mem ha
    simp only [List.length_cons]
    omega
theorem rungs_few {p : Pg} (hp : pgOk p = true) {ys : List Yr} (hy : ∀ y ∈ ys, yrOk y = true) {l : List Rn} (h : LOk p ys l) : l.length ≤ 4 ^ ys.length + 1 := by
  have hp1 := pgOk_iff.1 hp
  have h1 := few_of (m := never :: pathC p ys) (steps_pw h.st) fun x hx => by
    simp only [List.mem_map] at hx
    obtain ⟨r, hr, rfl⟩ := hx
    rw [(h.mem r hr).2.2]
    rcases leastF_path hp1.2.2.2.1.1 ys r.u hy with h2 | h2
    · rw [h2]; simp
    · simp [h2]
  have h2 := pathC_len hp1.2.2.2.1.2 ys
  simp only [List.length_map, List.length_cons] at h1
  omega
theorem rightL_ok {p : Pg} (hp : pgOk p = true) {ys : List Yr} (hy : ∀ y ∈ ys, yrOk y = true) (hn : ys.length ≤ 8) {l : List Rn} (h : LOk p ys l) : rightL l = true := by
  have hp1 := pgOk_iff.1 hp
  have h1 := rungs_few hp hy h
  have h2 : 4 ^ ys.length ≤ 4 ^ 8 := Nat.pow_le_pow_right (by decide) hn
  obtain ⟨k, hk⟩ := h.last
  have hne : l ≠ [] := by rintro rfl; simp at hk
  refine rightL_iff.2 ⟨fun r hr => ?_, h.st, ⟨?_, ?_⟩, ?_, ?_⟩
  · rw [(h.mem r hr).2.2]; exact ⟨leastF_nonneg hp1.2.2.2.1.1 ys hy _, leastF_le ..⟩
  · have := List.length_pos_iff.2 hne; omega
  · have : (4 : Nat) ^ 8 = 65536 := by decide
    omega
  · cases l with
    | nil => exact absurd rfl hne
    | cons r l => exact (h.mem r (by simp)).1
  · rw [List.getLastD_eq_getLast?, hk]; rfl
theorem lads_len {p : Pg} : ∀ (ys : List Yr), (lads p ys).length = ys.length
  | [] => rfl
  | y :: ys => by simp [lads, lads_len ys]
theorem lads_right {p : Pg} (hp : pgOk p = true) : ∀ (ys : List Yr), (∀ y ∈ ys, yrOk y = true) → ys.length ≤ 8 → ∀ l ∈ lads p ys, rightL l = true
  | [], _, _, l, h => by simp [lads] at h
  | y :: ys, hy, hn, l, h => by
    have hk := ladF_ok hp (y :: ys) hy hn
    rw [lads] at h
    rcases List.mem_cons.1 h with rfl | h
    · exact rightL_ok hp hy hn hk
    · exact lads_right hp ys (fun z hz => hy z (by simp [hz])) (by simp only [List.length_cons] at hn; omega) l h
theorem lads_below {p : Pg} (hp : pgOk p = true) : ∀ (ys : List Yr), (∀ y ∈ ys, yrOk y = true) → ys.length ≤ 8 → belows p ys (lads p ys) = true
  | [], _, _ => rfl
  | y :: ys, hy, hn => by
    have hp1 := pgOk_iff.1 hp
    have hn' : ys.length ≤ 8 := by simp only [List.length_cons] at hn; omega
    have hk := ladF_ok hp (y :: ys) hy hn
    have hk2 := ladF_ok hp ys (fun z hz => hy z (by simp [hz])) hn'
    simp only [lads, belows, Bool.and_eq_true, below, allB_iff, decide_eq_true_eq]
    refine ⟨fun r hr => ?_, lads_below hp ys (fun z hz => hy z (by simp [hz])) hn'⟩
    have h1 := hk.mem r (by simpa [ladF, lads] using hr)
    rw [h1.2.2]
    refine Int.le_of_eq ?_
    exact leastW_congr (fun j h2 h3 => ⟨Iff.rfl, fun _ => (hk2.all hp (fun z hz => hy z (by simp [hz])) hn' h1.1 h1.2.1 h2 h3).symm⟩) hp1.2.2.2.1.1
/-- The program's table shows that its plan is the cheapest. -/
theorem drill_shows {p : Pg} (hp : pgOk p = true) (h : leastF p p.l p.start < never) : shows p (drillL p p.l p.start) (lads p p.l) = true := by
  have hp1 := pgOk_iff.1 hp
  have hd := drillL_ok hp1.2.2.2.1.1 p.l p.start hp1.2.2.2.2.2 h
  have hn : p.l.length ≤ 8 := by omega
  simp only [shows, tableOk, Bool.and_eq_true, decide_eq_true_eq, planOk_iff, allB_iff]
  refine ⟨⟨hd.1, hd.2.1⟩, ⟨lads_len _, lads_right hp _ hp1.2.2.2.2.2 hn, lads_below hp _ hp1.2.2.2.2.2 hn⟩, hd.2.2.1, ?_⟩
  rw [hd.2.2.2]
  have hk := ladF_ok hp p.l hp1.2.2.2.2.2 hn
  rw [← hk.val p.start hp1.1.1 (by simp only [held]; omega)]
  unfold ladF
  cases hl : lads p p.l with
  | nil => have := lads_len (p := p) p.l; rw [hl] at this; simp at this; omega
  | cons a b => rfl

/-! ### The year that is short -/

def shortL (p : Pg) : List Yr → Int → Option Nat
  | [], _ => none
  | y :: ys, now => if y.need ≤ now + p.most * p.gain then (shortL p ys (aft p now p.most)).map (· + 1) else some 0
theorem aft_mono2 {p : Pg} (hg : 0 ≤ p.gain) (hk : 0 ≤ p.keep) {c c' k k' : Int} (hc : c ≤ c') (h : k ≤ k') : aft p c k ≤ aft p c' k' := by
  unfold aft
  have : k * p.gain ≤ k' * p.gain := Int.mul_le_mul_of_nonneg_right h hg
  exact Int.ediv_le_ediv (by decide) (Int.mul_le_mul_of_nonneg_right (by omega) hk)
/-- Where no year is short there is a plan. -/
theorem short_none {p : Pg} (hp : pgOk p = true) : ∀ (ys : List Yr) (now : Int), (∀ y ∈ ys, yrOk y = true) → ys.length ≤ 8 → shortL p ys now = none → leastF p ys now ≤ 3000000 * ys.length
  | [], _, _, _, _ => by simp [leastF]
  | y :: ys, now, hy, hn, h => by
    have hp1 := pgOk_iff.1 hp
    unfold shortL at h
    split at h
    · rename_i hm
      simp only [Option.map_eq_none_iff] at h
      have ih := short_none hp ys _ (fun z hz => hy z (by simp [hz])) (by simp only [List.length_cons] at hn; omega) h
      have h1 := leastW_at (p := p) (y := y) (g := leastF p ys) hp1.2.2.2.1.1 (Int.le_refl _) hm
      have h2 := price_bd (k := p.most) ⟨hp1.2.2.2.1.1, hp1.2.2.2.1.2⟩ (yrOk_iff.1 (hy y (by simp))).2
      simp only [leastF, List.length_cons]
      omega
    · cases h
/-- Where a year is short there is none. -/
theorem short_some {p : Pg} (hp : pgOk p = true) : ∀ (ys : List Yr) (now now' : Int) (i : Nat), (∀ y ∈ ys, yrOk y = true) → now' ≤ now → shortL p ys now = some i → leastF p ys now' = never ∧ i < ys.length
  | [], _, _, _, _, _, h => by simp [shortL] at h
  | y :: ys, now, now', i, hy, hle, h => by
    have hp1 := pgOk_iff.1 hp
    have hm := hp1.2.2.2.1.1
    unfold shortL at h
    split at h
    · rename_i hmt
      simp only [Option.map_eq_some_iff] at h
      obtain ⟨i', h, rfl⟩ := h
      refine ⟨?_, ?_⟩
      · rcases leastW_is (p := p) (y := y) (g := leastF p ys) (c := now') hm with h1 | ⟨j, h1, h2, h3, h4⟩
        · exact h1
        · have h5 := (short_some hp ys _ (aft p now' j) i' (fun z hz => hy z (by simp [hz])) (aft_mono2 (by omega) hp1.2.2.1.1 hle h2) h).1
          have h6 := leastW_le (p := p) (y := y) (g := leastF p ys) (c := now')
          have h7 := Int.mul_nonneg h1 (yrOk_iff.1 (hy y (by simp))).2.1
          simp only [leastF]
          omega
      · have := (short_some hp ys _ _ i' (fun z hz => hy z (by simp [hz])) (Int.le_refl _) h).2
        simp only [List.length_cons]
        omega
    · rename_i hmt
      cases h
      refine ⟨?_, by simp⟩
      rcases leastW_is (p := p) (y := y) (g := leastF p ys) (c := now') hm with h1 | ⟨j, h1, h2, h3, h4⟩
      · exact h1
      · have : j * p.gain ≤ p.most * p.gain := Int.mul_le_mul_of_nonneg_right h2 (by omega)
        omega
/-- The years ahead of it are not short. -/
theorem short_take {p : Pg} : ∀ (ys : List Yr) (now : Int) (i : Nat), shortL p ys now = some i → shortL p (ys.take i) now = none
  | [], _, _, h => by simp [shortL] at h
  | y :: ys, now, i, h => by
    unfold shortL at h
    split at h
    · rename_i hm
      simp only [Option.map_eq_some_iff] at h
      obtain ⟨i', h, rfl⟩ := h
      rw [List.take_succ_cons, shortL, if_pos hm, short_take ys _ i' h]
      rfl
    · cases h; rfl
/-- With one well a year more the least is no more. -/
theorem leastF_more {p : Pg} (hm : 0 ≤ p.most) : ∀ (ys : List Yr) (c : Int), leastF { p with most := p.most + 1 } ys c ≤ leastF p ys c
  | [], _ => Int.le_refl _
  | y :: ys, c => by
    rcases leastW_is (p := p) (y := y) (g := leastF p ys) (c := c) hm with h1 | ⟨j, h1, h2, h3, h4⟩
    · simp only [leastF]; rw [h1]; exact leastW_le
    · have h5 := leastW_at (p := { p with most := p.most + 1 }) (y := y) (g := leastF { p with most := p.most + 1 } ys) (c := c) (j := j) h1 (by show j ≤ p.most + 1; omega) h3
      have h6 := leastF_more hm ys (aft p c j)
      have h7 : aft { p with most := p.most + 1 } c j = aft p c j := rfl
      rw [h7] at h5
      simp only [leastF]
      omega
end Go.Lease
