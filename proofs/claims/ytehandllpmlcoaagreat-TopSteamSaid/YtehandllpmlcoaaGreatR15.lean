/-
  A tick: the wells, what is fed, the answer.
-/
import Derived.Test.YtehandllpmlcoaaGreatR14
set_option linter.unusedVariables false
set_option linter.unusedSimpArgs false
namespace Go.Proofs.YtehandllpmlcoaaGreat
open Go Go.Abs Go.Rock
variable {σ : Stack}

theorem wells_ok {b : Bed} (h : Bv b) : ∀ w ∈ b.wells, (0 ≤ w.b ∧ w.b < (b.n : Int)) ∧ (0 ≤ w.h ∧ w.h ≤ 3000) ∧ (0 ≤ w.m ∧ w.m ≤ 1000000) := by
  have key : ∀ (l : List Bore) (u : List Int), wellsOk b.size u l = true → ∀ w ∈ l, (0 ≤ w.b ∧ w.b < (b.n : Int)) ∧ (0 ≤ w.h ∧ w.h ≤ 3000) ∧ (0 ≤ w.m ∧ w.m ≤ 1000000) := by
    intro l
    induction l with
    | nil => intro u _ w hw; cases hw
    | cons a l ih =>
      intro u hu w hw
      simp only [wellsOk, Bore.ok, Bool.and_eq_true] at hu
      obtain ⟨⟨h1, h2, h3, h4⟩, h5⟩ := hu
      rcases List.mem_cons.1 hw with rfl | hw
      · have hs := h.sz
        have := inn_iff.1 h1
        unfold Bed.size at this
        exact ⟨⟨this.1, by omega⟩, inn_iff.1 h3, inn_iff.1 h4⟩
      · exact ih _ h5 w hw
  exact key _ _ h.ok
theorem mulR {a r A R : Int} (ha : 0 ≤ a ∧ a ≤ A) (hr : -R ≤ r ∧ r ≤ R) : -(R * A) ≤ r * a ∧ r * a ≤ R * A := by
  rcases Int.le_total 0 r with h | h
  · have := mul_n h hr.2 ha.1 ha.2
    have h2 := Int.mul_nonneg (show 0 ≤ R by omega) (show 0 ≤ A by omega)
    omega
  · have := mul_n (a := -r) (A := R) (by omega) (by omega) ha.1 ha.2
    rw [Int.neg_mul] at this
    have h2 := Int.mul_nonneg (show 0 ≤ R by omega) (show 0 ≤ A by omega)
    omega
theorem given_sm {w : Bore} {r : Int} (hr : -100000 ≤ r ∧ r ≤ 100000) (h1 : 0 ≤ w.h ∧ w.h ≤ 3000) (h2 : 0 ≤ w.m ∧ w.m ≤ 1000000) : sm (w.given r) 1000000000000 := by
  have b1 := mulR h1 hr
  have b2 := mulR h2 hr
  exact ⟨⟨by simp only [Bore.given]; omega, by simp only [Bore.given]; omega⟩, ⟨by simp only [Bore.given, Int.neg_mul]; omega, by simp only [Bore.given, Int.neg_mul]; omega⟩, ⟨by simp only [Bore.given, Int.neg_mul]; omega, by simp only [Bore.given, Int.neg_mul]; omega⟩⟩
theorem fed_sm {b : Bed} {m : Mdl} (h : Fv b m) {i : Nat} (hi : i < b.n) : sm (fed b m i) 1000000000000 := by
  have b1 := h.feed i hi
  have b2 := h.bv.deep
  have b3 := mul_n b1.1 b1.2 b2.1 b2.2
  exact ⟨⟨by simp only [fed]; omega, by simp only [fed]; omega⟩, ⟨by simp only [fed]; omega, by simp only [fed]; omega⟩, ⟨by simp [fed], by simp [fed]⟩⟩
def wellsTo (b : Bed) (s s1 : List Rock.Blk) (rates : List Int) (j : Nat) : List Rock.Blk := ((b.wells.zip rates).take j).foldl (fun n wr => wellMove s n wr.1 wr.2) s1
def feedTo (b : Bed) (m : Mdl) (s2 : List Rock.Blk) (i : Nat) : List Rock.Blk := (List.range i).foldl (fun n i => moveAt n i (fed b m i) 1) s2
theorem wellsTo_succ {b : Bed} {s s1 : List Rock.Blk} {rates : List Int} {j : Nat} {w : Bore} {r : Int} (h1 : b.wells[j]? = some w) (h2 : rates[j]? = some r) : wellsTo b s s1 rates (j + 1) = wellMove s (wellsTo b s s1 rates j) w r := by
  have : (b.wells.zip rates)[j]? = some (w, r) := by rw [List.getElem?_zip_eq_some]; exact ⟨h1, h2⟩
  unfold wellsTo
  rw [List.take_add_one, this, List.foldl_append]; rfl
theorem feedTo_succ {b : Bed} {m : Mdl} {s2 : List Rock.Blk} {i : Nat} : feedTo b m s2 (i + 1) = moveAt (feedTo b m s2 i) i (fed b m i) 1 := by
  unfold feedTo
  rw [List.range_succ, List.foldl_append]; rfl
theorem feedTo_len {b : Bed} {m : Mdl} {s2 : List Rock.Blk} : ∀ i, (feedTo b m s2 i).length = s2.length
  | 0 => rfl
  | i + 1 => by rw [feedTo_succ, move_len, feedTo_len i]
theorem yield_at {b : Bed} {s : List Rock.Blk} {rates : List Int} {j : Nat} {w : Bore} {r : Int} (h1 : b.wells[j]? = some w) (h2 : rates[j]? = some r) : (yieldsOf b s rates)[j]? = some (wellYield s w r) := by
  have : (b.wells.zip rates)[j]? = some (w, r) := by rw [List.getElem?_zip_eq_some]; exact ⟨h1, h2⟩
  simp [yieldsOf, this]
/-- What a tick needs of the rates. -/
structure Rv (b : Bed) (rates : List Int) : Prop where
  len : rates.length = b.wells.length
  ok : ∀ r ∈ rates, -100000 ≤ r ∧ r ≤ 100000
theorem Rv.of {b : Bed} {rates : List Int} (h : ratesE b rates = 0) : Rv b rates := by
  unfold ratesE at h
  split at h
  · rename_i hl
    split at h
    · rename_i ha
      exact ⟨hl, fun r hr => inn_iff.1 (allB_iff.1 ha r hr)⟩
    · cases h
  · cases h
theorem move_sm {b : Bed} {s next : List Rock.Blk} (h : Bv b) (hs : Sv b s) {rates : List Int} (hr : Rv b rates) {j : Nat} {w : Bore} {r : Int} (h1 : b.wells[j]? = some w) (h2 : rates[j]? = some r) {N : Int} (hb : bnd N next) : bnd (N + 1000000000000) (wellMove s next w r) := by
  have hw := wells_ok h w (List.mem_of_getElem? h1)
  have hrr := hr.ok r (List.mem_of_getElem? h2)
  obtain ⟨_, m1, m2, m3⟩ := hs.at (i := w.b.toNat) (by omega)
  have d2 := Int.tdiv_eq_ediv_of_nonneg (b := 8) (show 0 ≤ (blkAt s w.b.toNat).m by omega)
  unfold wellMove wellYield
  split
  · exact move_bnd hb (given_sm hrr hw.2.1 hw.2.2) (.inl rfl) (by omega)
  · exact move_bnd hb (out_sm m1 m2 m3 ⟨by rw [d2]; omega, by rw [d2]; omega⟩) (.inr rfl) (by omega)
theorem wellMove_len {s n : List Rock.Blk} {w : Bore} {r : Int} : (wellMove s n w r).length = n.length := by
  unfold wellMove; split <;> simp [move_len]
theorem wellsTo_ok {b : Bed} {s s1 : List Rock.Blk} (h : Bv b) (hs : Sv b s) {rates : List Int} (hr : Rv b rates) (hb : bnd 500000000000000 s1) : ∀ j, j ≤ rates.length → bnd (500000000000000 + 1000000000000 * j) (wellsTo b s s1 rates j) ∧ (wellsTo b s s1 rates j).length = s1.length
  | 0, _ => ⟨by simpa [wellsTo] using hb, by simp [wellsTo]⟩
  | j + 1, hj => by
    obtain ⟨r, h2⟩ : ∃ r, rates[j]? = some r := ⟨_, List.getElem?_eq_getElem (by omega)⟩
    obtain ⟨w, h1⟩ : ∃ w, b.wells[j]? = some w := ⟨_, List.getElem?_eq_getElem (by rw [← hr.len]; omega)⟩
    obtain ⟨ih1, ih2⟩ := wellsTo_ok h hs hr hb j (by omega)
    rw [wellsTo_succ h1 h2]
    have h3 := move_sm h hs hr h1 h2 ih1
    exact ⟨fun x hx => sm_mono (h3 x hx) (by push_cast; omega), by rw [wellMove_len, ih2]⟩
theorem feedTo_ok {b : Bed} {m : Mdl} {s2 : List Rock.Blk} (h : Fv b m) (hb : bnd 600000000000000 s2) : ∀ i, i ≤ b.n → bnd (600000000000000 + 1000000000000 * i) (feedTo b m s2 i)
  | 0, _ => by simpa [feedTo] using hb
  | i + 1, hi => by
    have ih := feedTo_ok h hb i (by omega)
    rw [feedTo_succ]
    have h3 := move_bnd (i := i) ih (fed_sm h (i := i) (by omega)) (.inl rfl) (by omega)
    exact fun x hx => sm_mono (h3 x hx) (by push_cast; omega)
end Go.Proofs.YtehandllpmlcoaaGreat
