/-
  Pressures; what is valid of a state.
-/
import Derived.Test.YtehandllpmlcoaaGreatR8
set_option linter.unusedVariables false
set_option linter.unusedSimpArgs false
namespace Go.Proofs.YtehandllpmlcoaaGreat
open Go Go.Abs Go.Rock
variable {σ : Stack}

theorem Blk.ok_iff {x : Rock.Blk} : x.valid = true ↔ (1 ≤ x.m ∧ x.m ≤ 1000000) ∧ (0 ≤ x.h ∧ x.h ≤ 10000000000) ∧ (0 ≤ x.k ∧ x.k ≤ 1000000000000) := by
  simp [Rock.Blk.valid, inn]
/-- A state of the field. -/
structure Sv (b : Bed) (s : List Rock.Blk) : Prop where
  len : s.length = b.n
  ok : ∀ x ∈ s, x.valid = true
theorem Sv.of {b : Bed} {s : List Rock.Blk} (h : Bv b) : stateOk b s = true ↔ Sv b s := by
  have hs := h.sz; have hn := h.n
  unfold stateOk
  simp only [Bool.and_eq_true, decide_eq_true_eq]
  constructor
  · rintro ⟨h1, h2⟩
    exact ⟨by unfold Bed.size at h1; omega, allB_iff.1 h2⟩
  · rintro ⟨h1, h2⟩
    exact ⟨by unfold Bed.size; omega, allB_iff.2 h2⟩
theorem Sv.at {b : Bed} {s : List Rock.Blk} (h : Sv b s) {i : Nat} (hi : i < b.n) : s[i]? = some (blkAt s i) ∧ (1 ≤ (blkAt s i).m ∧ (blkAt s i).m ≤ 1000000) ∧ (0 ≤ (blkAt s i).h ∧ (blkAt s i).h ≤ 10000000000) ∧ (0 ≤ (blkAt s i).k ∧ (blkAt s i).k ≤ 1000000000000) := by
  have h1 : i < s.length := by have := h.len; omega
  have h2 : s[i]? = some (blkAt s i) := by simp [blkAt, h1]
  exact ⟨h2, Blk.ok_iff.1 (h.ok _ (List.mem_of_getElem? h2))⟩
theorem Sv.first {b : Bed} {m : Mdl} (h : Fv b m) : Sv b (firstSt b m) := by
  refine ⟨first_len, fun x hx => ?_⟩
  simp only [firstSt, List.mem_map, List.mem_range] at hx
  obtain ⟨i, hi, rfl⟩ := hx
  have b1 := h.hold i hi
  have b2 := h.warm i hi
  have b3 := mul_n (by omega : 0 ≤ hold b m i) b1.2 b2.1 b2.2
  exact Blk.ok_iff.2 ⟨⟨by simp only; omega, by simp only; omega⟩, ⟨b3.1, by simp only; omega⟩, by simp⟩

/-! ### Pressures -/
theorem row_ok {r : Rw} (h : r.alone = true) : (1 ≤ r.p ∧ r.p ≤ 10000) ∧ (0 ≤ r.l ∧ r.l ≤ 4000) := by
  simp only [Rw.alone, Bool.and_eq_true] at h
  exact ⟨inn_iff.1 h.2.1, inn_iff.1 h.2.2.1⟩
theorem L_press {s : List Rock.Blk} {i : Nat} {x : Rock.Blk} {t : List Rw} (hx : s[i]? = some x) (hm : 0 ≤ x.m ∧ x.m ≤ 1000000) (ht : ∀ r ∈ t, r.alone = true) (hl : t.length ≤ 1000) : ∀ (n j : Nat) (o : Int), j + n = t.length →
    WL T [1, 2, 7, 34, 35, 36] false f_rock_bedded_pressure_l8 [(1, .lst s.length (s.flatMap Blk.enc)), (2, .int .i64 i), (7, .int .i64 o), (34, .lst t.length (t.flatMap Rw.enc)), (35, .int .i64 t.length), (36, .int .i64 j)] σ
      (fun x' e σ' => σ' = σ ∧ x' = .exit 0 ∧ get e 7 = .int .i64 ((t.drop j).foldl (pressStep x) o))
  | 0, j, o, hj => by
    refine WL_step e_rock_bedded_pressure_l8 ?_
    have h1 : ¬ j < t.length := by omega
    have h2 : t.drop j = [] := List.drop_eq_nil_of_le (by omega)
    simp [-List.length_flatMap, -List.map_take, eF, h1, h2]
  | n + 1, j, o, hj => by
    refine WL_step e_rock_bedded_pressure_l8 ?_
    have h1 : j < t.length := by omega
    obtain ⟨r, hr⟩ : ∃ r, t[j]? = some r := ⟨_, List.getElem?_eq_getElem h1⟩
    have hrb := row_ok (ht r (List.mem_of_getElem? hr))
    have h2 := flat_at (f := Rw.enc) (w := 5) (fun _ => rfl) hr
    have h3 := flat_at (f := Blk.enc) (w := 3) (fun _ => rfl) hx
    have h4 := wnext h1 (by omega)
    have h5 := drop_at hr
    have hi : i < s.length := (List.getElem?_eq_some_iff.1 hx).1
    have b1 := mul_n hrb.2.1 hrb.2.2 hm.1 hm.2
    have w1 := w64 (n := r.l * x.m) (by omega)
    have ih := L_press hx hm ht hl n (j + 1) (pressStep x o r) (by omega)
    rw [h5]
    simp only [List.foldl_cons]
    by_cases hc : r.l * x.m ≤ x.h
    · have hm2 : (if o < r.p then r.p else o) = pressStep x o r := by unfold pressStep; rw [if_pos hc]; omega
      simp [-List.length_flatMap, -List.map_take, eF, h1, h2, h3, h4, hi, w1, hc]
      refine WL.to ih (by simp [pressStep, hc]) rfl fun x e σ hh => hh
    · simp [-List.length_flatMap, -List.map_take, eF, h1, h2, h3, h4, hi, w1, hc]
      refine WL.to ih (by simp [pressStep, hc]) rfl fun x e σ hh => hh
theorem C_pressure {b : Bed} {m : Mdl} {s : List Rock.Blk} (h : Fv b m) (hs : Sv b s) {i : Nat} (hi : i < b.n) :
    lim T (.call false i_rock_bedded_pressure [.agg [.int .i64 b.f.x, .int .i64 b.f.y, .int .i64 b.f.z, .int .i64 b.f.k, .lst b.tab.length (b.tab.flatMap Rw.enc), .int .i64 b.stiff, .int .i64 b.lift, .int .i64 b.deep, .lst b.wells.length (b.wells.flatMap Bore.enc), .str m.name, .lst m.vals.length (m.vals.flatMap intE)], .lst s.length (s.flatMap Blk.enc), .int .i64 i] σ) = some (.val (.int .i64 (pressure b m s i)) σ) := by
  refine call_of T_rock_bedded_pressure e_rock_bedded_pressure rfl ?_
  have hw := fun σ => C_weight (σ := σ) (m := m) h.bv hi
  have ho := fun σ => C_hold (σ := σ) h.toMv hi
  have b1 := h.hold i hi
  obtain ⟨hx, b2, b3, b4⟩ := hs.at hi
  have hil : i < s.length := by have := hs.len; omega
  have hst := h.bv.stiff
  have b5 := weight_b h.bv hi
  have b6 : -100000000000 ≤ b.stiff * ((blkAt s i).m - hold b m i) ∧ b.stiff * ((blkAt s i).m - hold b m i) ≤ 100000000000 := by
    rcases Int.le_total (hold b m i) (blkAt s i).m with hh | hh
    · have := mul_n (a := b.stiff) (b := (blkAt s i).m - hold b m i) (A := 100000) (B := 1000000) (by omega) hst.2 (by omega) (by omega); omega
    · have := mul_n (a := b.stiff) (b := hold b m i - (blkAt s i).m) (A := 100000) (B := 1000000) (by omega) hst.2 (by omega) (by omega)
      have e : b.stiff * ((blkAt s i).m - hold b m i) = - (b.stiff * (hold b m i - (blkAt s i).m)) := by rw [← Int.mul_neg]; congr 1; omega
      omega
  have hd := fun σ => C_down (σ := σ) (n := b.stiff * ((blkAt s i).m - hold b m i)) (d := hold b m i) (by omega) (by omega)
  have b7 : -100000000000 ≤ down (b.stiff * ((blkAt s i).m - hold b m i)) (hold b m i) ∧ down (b.stiff * ((blkAt s i).m - hold b m i)) (hold b m i) ≤ 100000000000 := by
    unfold down
    constructor
    · rw [Int.le_ediv_iff_mul_le (by omega)]; omega
    · have := Int.ediv_le_self (b := hold b m i) (a := b.stiff * ((blkAt s i).m - hold b m i))
      rcases Int.le_total 0 (b.stiff * ((blkAt s i).m - hold b m i)) with hh | hh
      · have := this hh; omega
      · have := Int.ediv_le_of_le_mul (b := 0) (show 0 < hold b m i by omega) (by omega : b.stiff * ((blkAt s i).m - hold b m i) ≤ 0 * hold b m i); omega
  have w1 := w64 (n := (blkAt s i).m - hold b m i) (by omega)
  have w2 := w64 (n := b.stiff * ((blkAt s i).m - hold b m i)) (by omega)
  have w3 := w64 (n := weight b i + down (b.stiff * ((blkAt s i).m - hold b m i)) (hold b m i)) (by omega)
  have h3 := flat_at (f := Blk.enc) (w := 3) (fun _ => rfl) hx
  have htab := h.bv.tab
  simp only [tabOk, Bool.and_eq_true] at htab
  have ht := inn_iff.1 htab.1
  simp [-List.length_flatMap, -List.map_take, eF, hw, ho, hil, h3, w1, w2, hd, w3]
  refine WL.to (L_press (σ := [] :: σ) hx ⟨by omega, by omega⟩ (allB_iff.1 htab.2.1) (by omega) b.tab.length 0 (max 0 (weight b i + down (b.stiff * ((blkAt s i).m - hold b m i)) (hold b m i))) (by omega)) (by simp) rfl ?_
  rintro x e σ' ⟨rfl, rfl, g⟩
  simp [-List.length_flatMap, -List.map_take, eF, g, pressure]

/-! ### All pressures -/
theorem pr_len {b : Bed} {m : Mdl} {s : List Rock.Blk} : (pressures b m s).length = s.length := by simp [pressures]
theorem int_len (l : List Int) : (l.flatMap intE).length = l.length := by
  have := flat_len (f := intE) (w := 1) (fun _ => rfl) l
  omega
theorem L_pressures {b : Bed} {m : Mdl} {s : List Rock.Blk} (h : Fv b m) (hs : Sv b s) : ∀ (n i v : Nat), i + n = s.length →
    WL T [1, 2, 4, 7, 8] false f_rock_bedded_pressures_l6 [(1, .lst s.length (s.flatMap Blk.enc)), (2, .cref [.int .i64 b.f.x, .int .i64 b.f.y, .int .i64 b.f.z, .int .i64 b.f.k, .lst b.tab.length (b.tab.flatMap Rw.enc), .int .i64 b.stiff, .int .i64 b.lift, .int .i64 b.deep, .lst b.wells.length (b.wells.flatMap Bore.enc), .str m.name, .lst m.vals.length (m.vals.flatMap intE)]), (4, .sl σ.length 0 v 0 i 1), (7, .int .i64 s.length), (8, .int .i64 i)] ([.cells v (((pressures b m s).take i).flatMap intE)] :: σ)
      (fun x e σ' => x = .exit 0 ∧ get e 4 = .sl σ.length 0 (v + n) 0 (pressures b m s).length 1 ∧ σ' = [.cells (v + n) ((pressures b m s).flatMap intE)] :: σ)
  | 0, i, v, hi => by
    refine WL_step e_rock_bedded_pressures_l6 ?_
    have h1 : ¬ i < s.length := by omega
    have h3 : (pressures b m s).take i = pressures b m s := List.take_of_length_le (by rw [pr_len]; omega)
    simp [-List.length_flatMap, -List.map_take, eF, h1, h3, pr_len]
    omega
  | n + 1, i, v, hi => by
    refine WL_step e_rock_bedded_pressures_l6 ?_
    have h1 : i < s.length := by omega
    have hn := h.bv.n; have hl := hs.len
    have h4 := wnext h1 (by omega)
    have hp := fun σ => C_pressure (σ := σ) h hs (i := i) (by omega)
    have ih := L_pressures h hs n (i + 1) (v + 1) (by omega)
    have hx : (pressures b m s)[i]? = some (pressure b m s i) := by simp [pressures, h1]
    have a3 := flat_snoc (f := intE) hx
    have a4 := int_len ((pressures b m s).take i)
    rw [List.length_take, pr_len, Nat.min_eq_left (by omega)] at a4
    have a6 : (((pressures b m s).take i).flatMap intE).take i = ((pressures b m s).take i).flatMap intE := List.take_of_length_le (by omega)
    have h7 : (i + 1) * 8 ≤ room := by unfold room; omega
    simp [-List.length_flatMap, -List.map_take, eF, h1, h4, hp, a4, a6, h7, cl_rw, cl_bore, cl_int]
    refine WL.to ih (by simp [cl_rw, cl_bore, cl_int]) (by simp [← a3]) fun x e σ hh => by simpa [Nat.add_assoc, Nat.add_comm 1 n] using hh
theorem C_pressures {b : Bed} {m : Mdl} {s : List Rock.Blk} (h : Fv b m) (hs : Sv b s) (hσ : σ ≠ []) : lim T (.call false i_rock_bedded_pressures [.agg [.int .i64 b.f.x, .int .i64 b.f.y, .int .i64 b.f.z, .int .i64 b.f.k, .lst b.tab.length (b.tab.flatMap Rw.enc), .int .i64 b.stiff, .int .i64 b.lift, .int .i64 b.deep, .lst b.wells.length (b.wells.flatMap Bore.enc), .str m.name, .lst m.vals.length (m.vals.flatMap intE)], .lst s.length (s.flatMap Blk.enc)] σ) = some (.val (.lst (pressures b m s).length ((pressures b m s).flatMap intE)) σ) := by
  refine call_of T_rock_bedded_pressures e_rock_bedded_pressures rfl ?_
  simp [-List.length_flatMap, -List.map_take, eF, cl_rw, cl_bore, cl_int]
  refine WL.to (L_pressures (σ := σ) h hs s.length 0 0 (by omega)) (by simp) (by simp) ?_
  rintro x e σ' ⟨rfl, g4, rfl⟩
  simp [-List.length_flatMap, -List.map_take, eF, g4]
  rw [k_out (f := intE) (by decide) (fun _ => rfl) (fun x => by simp) hσ (by simp)]
  simp
end Go.Proofs.YtehandllpmlcoaaGreat
