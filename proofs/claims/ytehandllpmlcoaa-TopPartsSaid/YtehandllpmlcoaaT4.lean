/-
  TopParts: the walk.
-/
import Derived.Test.YtehandllpmlcoaaT1
import Derived.Test.YtehandllpmlcoaaT3
import Derived.Test.YtehandllpmlcoaaSurvParts
set_option linter.unusedVariables false
set_option linter.unusedSimpArgs false
namespace Go.Proofs.Ytehandllpmlcoaa
open Go Go.Abs Go.Rock
variable {σ : Stack}

def b8E (n : Int) : List D := [.int .u8 n]
theorem b8_at {l : List Int} {j : Nat} {x : Int} (h : l[j]? = some x) : ((l.flatMap b8E).drop j).take 1 = [.int .u8 x] := by
  have := flat_at (f := b8E) (w := 1) (fun _ => rfl) h
  simpa [b8E] using this
theorem w8 {n : Int} (h : 0 ≤ n ∧ n ≤ 255) : IntKind.u8.wrap n = n := by
  simp only [IntKind.wrap, IntKind.bits, IntKind.signed, Bool.false_and, Bool.false_eq_true, if_false]
  omega
/-- The model's value at a place. -/
theorem val_at {os : List Int} {k i : Nat} (hk : k < 4) (hi : i < os.length) : (rowM os).vals[k * os.length + i]? = some (if k = 0 then 2000 else if k = 1 then opnOf ((os[i]?).getD 0) else 0) := by
  simp only [rowM]
  obtain rfl | rfl | rfl | rfl : k = 0 ∨ k = 1 ∨ k = 2 ∨ k = 3 := by omega
  · rw [List.getElem?_append_left (by simp; omega), List.getElem?_replicate, if_pos (by omega)]; rfl
  · rw [List.getElem?_append_right (by simp), List.getElem?_append_left (by simp; omega)]; simp [hi]
  · rw [List.getElem?_append_right (by simp; omega), List.getElem?_append_right (by simp; omega), List.getElem?_append_left (by simp; omega), List.getElem?_replicate, if_pos (by simp; omega)]; rfl
  · rw [List.getElem?_append_right (by simp; omega), List.getElem?_append_right (by simp; omega), List.getElem?_append_right (by simp; omega), List.getElem?_replicate, if_pos (by simp; omega)]; rfl
theorem vals_len {os : List Int} : (rowM os).vals.length = 4 * os.length := by simp [rowM]; omega
theorem L_vals1 {os : List Int} (hn : 1 ≤ os.length ∧ os.length ≤ 8) (hos : ∀ o ∈ os, 0 ≤ o ∧ o ≤ 255) {d1 d2 d8 : D} (s1 : d1.strip = d1 ∧ d1.calm = d1) (s2 : d2.strip = d2 ∧ d2.calm = d2) (s8 : d8.calm = d8) {A : Abs.Blk} {k : Nat} (hk : k < 4) : ∀ (m i v : Nat), i + m = os.length → v = k * os.length + i →
    WL T [0, 1, 2, 7, 8, 9, 10, 11] false f_top_TopParts_l17 [(0, .lst os.length (os.flatMap b8E)), (1, d1), (2, d2), (7, .int .i64 os.length), (8, d8), (9, .own 0 [.str [109], .sl σ.length 1 v 0 v 1]), (10, .int .i64 k), (11, .int .i64 i)]
      ([A, .cells v (((rowM os).vals.take v).flatMap intE)] :: σ)
      (fun x e σ' => x = .exit 2 ∧ get e 0 = .lst os.length (os.flatMap b8E) ∧ get e 1 = d1 ∧ get e 2 = d2 ∧ get e 7 = .int .i64 os.length ∧ get e 8 = d8 ∧ get e 9 = .own 0 [.str [109], .sl σ.length 1 (v + m) 0 (v + m) 1] ∧ get e 10 = .int .i64 k ∧ σ' = [A, .cells (v + m) (((rowM os).vals.take (v + m)).flatMap intE)] :: σ)
  | 0, i, v, hi, hv => by
    refine WL_step e_top_TopParts_l17 ?_
    have h1 : ¬ i < os.length := by omega
    obtain rfl : i = os.length := by omega
    simp [-List.length_flatMap, -List.map_take, eF, s1, s2, s8]
  | m + 1, i, v, hi, hv => by
    refine WL_step e_top_TopParts_l17 ?_
    have h1 : i < os.length := by omega
    obtain ⟨o, ho⟩ : ∃ o, os[i]? = some o := ⟨_, List.getElem?_eq_getElem h1⟩
    have hob := hos o (List.mem_of_getElem? ho)
    have h4 := wnext h1 (by omega)
    have a1 := b8_at ho
    have hvv := val_at (k := k) hk h1
    rw [← hv, ho, Option.getD_some] at hvv
    have hkn : k * os.length ≤ 3 * os.length := Nat.mul_le_mul_right _ (by omega)
    have hvl : v ≤ 32 := by omega
    have f3 := flat_snoc (f := intE) hvv
    have f4 := int_len ((rowM os).vals.take v)
    rw [List.length_take, vals_len, Nat.min_eq_left (by omega)] at f4
    have f6 : (((rowM os).vals.take v).flatMap intE).take v = ((rowM os).vals.take v).flatMap intE := List.take_of_length_le (by omega)
    have h7 : (v + 1) * 8 ≤ room := by unfold room; omega
    have ih := L_vals1 hn hos s1 s2 s8 (A := A) hk m (i + 1) (v + 1) (by omega) (by omega)
    have hr : 0 ≤ o.tmod 3 ∧ o.tmod 3 ≤ 2 := by
      have g1 := Int.tmod_lt_of_pos o (show (0 : Int) < 3 by omega)
      have g2 := Int.tmod_nonneg 3 hob.1
      omega
    have y1 := w8 (n := o.tmod 3) (by omega)
    have y2 := w64 (n := o) (by omega)
    have y3 := w64 (n := 3 * o) (by omega)
    have y4 := w64 (n := 200 + 3 * o) (by omega)
    obtain rfl | hk1 : k = 0 ∨ k ≠ 0 := by omega
    · simp only [if_true] at f3
      simp [-List.length_flatMap, -List.map_take, eF, h1, h4, a1, f4, f6, h7, s1, s2, s8]
      exact WL.to ih (by simp) (by simp [← f3]) fun x e σ hh => by simpa [Nat.add_assoc, Nat.add_comm 1 m] using hh
    obtain rfl | hk2 : k = 1 ∨ k ≠ 1 := by omega
    · simp only [if_neg (show ¬ (1 : Nat) = 0 by omega), if_true] at f3
      unfold opnOf at f3
      by_cases hc : 0 < o.tmod 3
      · rw [if_pos hc] at f3
        simp [-List.length_flatMap, -List.map_take, eF, h1, h4, a1, f4, f6, h7, s1, s2, s8, y1, y2, y3, y4, hc]
        exact WL.to ih (by simp) (by simp [← f3]) fun x e σ hh => by simpa [Nat.add_assoc, Nat.add_comm 1 m] using hh
      · rw [if_neg hc] at f3
        simp [-List.length_flatMap, -List.map_take, eF, h1, h4, a1, f4, f6, h7, s1, s2, s8, y1, y2, y3, y4, hc]
        exact WL.to ih (by simp) (by simp [← f3]) fun x e σ hh => by simpa [Nat.add_assoc, Nat.add_comm 1 m] using hh
    · rw [if_neg hk1, if_neg hk2] at f3
      have hk1' : ¬ (k : Int) = 0 := by omega
      have hk2' : ¬ (k : Int) = 1 := by omega
      simp [-List.length_flatMap, -List.map_take, eF, h1, h4, a1, f4, f6, h7, s1, s2, s8, hk1, hk2, hk1', hk2']
      exact WL.to ih (by simp) (by simp [← f3]) fun x e σ hh => by simpa [Nat.add_assoc, Nat.add_comm 1 m] using hh
theorem L_vals {os : List Int} (hn : 1 ≤ os.length ∧ os.length ≤ 8) (hos : ∀ o ∈ os, 0 ≤ o ∧ o ≤ 255) {d1 d2 d8 : D} (s1 : d1.strip = d1 ∧ d1.calm = d1) (s2 : d2.strip = d2 ∧ d2.calm = d2) (s8 : d8.calm = d8) {A : Abs.Blk} : ∀ (m k v : Nat), k + m = 4 → v = k * os.length →
    WL T [0, 1, 2, 7, 8, 9, 10] false f_top_TopParts_l19 [(0, .lst os.length (os.flatMap b8E)), (1, d1), (2, d2), (7, .int .i64 os.length), (8, d8), (9, .own 0 [.str [109], .sl σ.length 1 v 0 v 1]), (10, .int .i64 k)]
      ([A, .cells v (((rowM os).vals.take v).flatMap intE)] :: σ)
      (fun x e σ' => x = .exit 0 ∧ get e 0 = .lst os.length (os.flatMap b8E) ∧ get e 1 = d1 ∧ get e 2 = d2 ∧ get e 7 = .int .i64 os.length ∧ get e 8 = d8 ∧ get e 9 = .own 0 [.str [109], .sl σ.length 1 (rowM os).vals.length 0 (rowM os).vals.length 1] ∧ σ' = [A, .cells (rowM os).vals.length ((rowM os).vals.flatMap intE)] :: σ)
  | 0, k, v, hk, hv => by
    refine WL_step e_top_TopParts_l19 ?_
    obtain rfl : k = 4 := by omega
    have hvl : v = (rowM os).vals.length := by rw [vals_len]; exact hv
    subst hvl
    simp [-List.length_flatMap, -List.map_take, eF, s1, s2, s8]
  | m + 1, k, v, hk, hv => by
    refine WL_step e_top_TopParts_l19 ?_
    have hk4 : k < 4 := by omega
    have w1 := w64 (n := (k : Int) + 1) (by omega)
    have hki : (k : Int) < 4 := by omega
    have e1 : (k + 1) * os.length = k * os.length + os.length := Nat.succ_mul _ _
    have ih := L_vals hn hos s1 s2 s8 (A := A) m (k + 1) (v + os.length) (by omega) (by omega)
    simp [-List.length_flatMap, -List.map_take, eF, hk4, hki, s1, s2, s8]
    refine WL.to (L_vals1 hn hos s1 s2 s8 (A := A) hk4 os.length 0 v (by omega) (by omega)) (by simp) rfl ?_
    rintro x e σ' ⟨rfl, g0, g1, g2, g7, g8, g9, g10, rfl⟩
    simp [-List.length_flatMap, -List.map_take, eF, g0, g1, g2, g7, g8, g9, g10, w1, s1, s2, s8]
    exact WL.to ih (by simp) rfl fun x e σ hh => hh

/-! ### Wells and parts -/
def shut (os : List Int) (i : Nat) : Bool := decide (((os[i]?).getD 0).tmod 3 = 0)
def prOs (os : List Int) : Nat → Int
  | 0 => 0
  | i + 1 => prOs os i + (if (shut os (i + 1) || shut os i) = true then 1 else 0)
def psAt (os : List Int) (i : Nat) : List Int := (List.range os.length).map fun j => if j < i then prOs os j else 0
theorem psAt_len {os : List Int} {i : Nat} : (psAt os i).length = os.length := by simp [psAt]
theorem psAt_get {os : List Int} {i j : Nat} (hj : j < i) (hi : i ≤ os.length) : (psAt os i)[j]? = some (prOs os j) := by
  simp [psAt, show j < os.length by omega, hj]
theorem psAt_succ {os : List Int} {i : Nat} (hi : i < os.length) : psAt os (i + 1) = (psAt os i).set i (prOs os i) := by
  apply List.ext_getElem?
  intro j
  rw [List.getElem?_set, psAt_len]
  by_cases hj : i = j
  · subst hj
    rw [if_pos rfl, if_pos hi]
    simp [psAt, hi]
  · rw [if_neg hj]
    by_cases hjn : j < os.length
    · simp only [psAt, List.getElem?_map, List.getElem?_range hjn, Option.map_some]
      by_cases h1 : j < i
      · rw [if_pos h1, if_pos (by omega)]
      · rw [if_neg h1, if_neg (by omega)]
    · simp [psAt, hjn]
theorem prOs_b {os : List Int} : ∀ i, 0 ≤ prOs os i ∧ prOs os i ≤ i
  | 0 => by simp [prOs]
  | i + 1 => by
    have := prOs_b (os := os) i
    simp only [prOs]
    split <;> (push_cast; omega)
theorem row_wells {n : Nat} : (rowB n).wells.length = n := by simp [rowB]
def bd8 (n : Nat) (w : D) : D := .own 0 [.int .i64 n, .int .i64 1, .int .i64 1, .int .i64 4, .lst 3 (three.flatMap Rw.enc), .int .i64 10000, .int .i64 0, .int .i64 0, w]
theorem L_pw {os : List Int} (hn : 1 ≤ os.length ∧ os.length ≤ 8) (hos : ∀ o ∈ os, 0 ≤ o ∧ o ≤ 255) {d1 d2 d9 : D} (s1 : d1.strip = d1 ∧ d1.calm = d1) (s2 : d2.strip = d2 ∧ d2.calm = d2) (s9 : d9.calm = d9) {A : Abs.Blk} : ∀ (m i : Nat), i + m = os.length →
    WL T [0, 1, 2, 7, 8, 9, 13, 14] false f_top_TopParts_l29 [(0, .lst os.length (os.flatMap b8E)), (1, d1), (2, d2), (7, .int .i64 os.length), (8, bd8 os.length (.sl σ.length 0 i 0 i 3)), (9, d9), (13, .sl σ.length 2 0 0 os.length 1), (14, .int .i64 i)]
      ([.cells i (((rowB os.length).wells.take i).flatMap Bore.enc), A, .cells 0 ((psAt os i).flatMap intE)] :: σ)
      (fun x e σ' => x = .exit 4 ∧ get e 1 = d1 ∧ get e 2 = d2 ∧ get e 7 = .int .i64 os.length ∧ get e 8 = bd8 os.length (.sl σ.length 0 os.length 0 os.length 3) ∧ get e 9 = d9 ∧ get e 13 = .sl σ.length 2 0 0 os.length 1 ∧
        σ' = [.cells os.length ((rowB os.length).wells.flatMap Bore.enc), A, .cells 0 ((psAt os os.length).flatMap intE)] :: σ)
  | 0, i, hi => by
    refine WL_step e_top_TopParts_l29 ?_
    obtain rfl : i = os.length := by omega
    have h3 : (rowB os.length).wells.take os.length = (rowB os.length).wells := List.take_of_length_le (by rw [row_wells]; omega)
    simp [-List.length_flatMap, -List.map_take, eF, s1, s2, s9, bd8, h3]
  | m + 1, i, hi => by
    refine WL_step e_top_TopParts_l29 ?_
    have h1 : i < os.length := by omega
    have h4 := wnext h1 (by omega)
    have hwi : (rowB os.length).wells[i]? = some ⟨i, 0, 0⟩ := by simp [rowB, h1]
    have f3 := flat_snoc (f := Bore.enc) hwi
    have f4 := flat_len (f := Bore.enc) (w := 3) (fun _ => rfl) ((rowB os.length).wells.take i)
    rw [List.length_take, row_wells, Nat.min_eq_left (by omega)] at f4
    have f6 : (((rowB os.length).wells.take i).flatMap Bore.enc).take (i * 3) = ((rowB os.length).wells.take i).flatMap Bore.enc := List.take_of_length_le (by omega)
    have h7 := room24 (n := i + 1) (by omega)
    have ih := L_pw hn hos s1 s2 s9 (A := A) m (i + 1) (by omega)
    rw [psAt_succ h1] at ih
    have pl := psAt_len (os := os) (i := i)
    have pf := int_len (psAt os i)
    rw [pl] at pf
    simp only [Bore.enc] at f3
    cases i with
    | zero =>
      have h0 : (psAt os 0).set 0 (prOs os 0) = psAt os 0 := by
        apply List.ext_getElem?
        intro j
        rw [List.getElem?_set]
        by_cases hj : 0 = j
        · subst hj; simp [psAt, prOs, h1]
        · simp [hj]
      rw [h0] at ih
      simp [-List.length_flatMap, -List.map_take, eF, h1, h4, f4, f6, h7, s1, s2, s9, bd8]
      exact WL.to ih (by simp [bd8]) (by simp [← f3]) fun x e σ hh => by simpa [bd8] using hh
    | succ i =>
      have hps := psAt_get (os := os) (i := i + 1) (j := i) (by omega) (by omega)
      have hd := k_drop (f := intE) (w := 1) (fun _ => rfl) hps
      simp only [Nat.mul_one, intE, List.singleton_append] at hd
      have w1 := w64 (n := ((i + 1 : Nat) : Int) - 1) (by omega)
      have w2 : ((i + 1 : Nat) : Int) - 1 = (i : Int) := by omega
      simp only [w2] at w1
      have hlt : i < os.length := by omega
      have w3 : IntKind.i64.wrap ((i : Int) + 1 - 1) = (i : Int) := by rw [Int.add_sub_cancel]; exact w1
      have hI : (i : Int) + 1 < (os.length : Int) := by omega
      have hI0 : (0 : Int) ≤ (i : Int) + 1 := by omega
      have hpb := prOs_b (os := os) i
      have set1 := k_set (f := intE) (w := 1) (fun _ => rfl) (l := psAt os (i + 1)) (i := i + 1) (x := prOs os i) (by rw [pl]; omega)
      simp only [Nat.mul_one, intE, List.singleton_append] at set1
      have hget2 : ((psAt os (i + 1)).set (i + 1) (prOs os i))[i + 1]? = some (prOs os i) := by rw [List.getElem?_set, if_pos rfl, if_pos (by rw [pl]; omega)]
      have hd2 := k_drop (f := intE) (w := 1) (fun _ => rfl) hget2
      simp only [Nat.mul_one, intE, List.singleton_append] at hd2
      have set2 := k_set (f := intE) (w := 1) (fun _ => rfl) (l := (psAt os (i + 1)).set (i + 1) (prOs os i)) (i := i + 1) (x := prOs os i + 1) (by rw [List.length_set, pl]; omega)
      simp only [Nat.mul_one, intE, List.singleton_append, List.set_set] at set2
      have pf2 := int_len ((psAt os (i + 1)).set (i + 1) (prOs os i))
      rw [List.length_set, pl] at pf2
      have w5 := w64 (n := prOs os i + 1) (by omega)
      obtain ⟨o1, ho1⟩ : ∃ o, os[i + 1]? = some o := ⟨_, List.getElem?_eq_getElem h1⟩
      obtain ⟨o0, ho0⟩ : ∃ o, os[i]? = some o := ⟨_, List.getElem?_eq_getElem hlt⟩
      have c1 := b8_at ho1
      have c0 := b8_at ho0
      have hb1 := hos o1 (List.mem_of_getElem? ho1)
      have hb0 := hos o0 (List.mem_of_getElem? ho0)
      have hr1 : 0 ≤ o1.tmod 3 ∧ o1.tmod 3 ≤ 2 := by
        have g1 := Int.tmod_lt_of_pos o1 (show (0 : Int) < 3 by omega)
        have g2 := Int.tmod_nonneg 3 hb1.1
        omega
      have hr0 : 0 ≤ o0.tmod 3 ∧ o0.tmod 3 ≤ 2 := by
        have g1 := Int.tmod_lt_of_pos o0 (show (0 : Int) < 3 by omega)
        have g2 := Int.tmod_nonneg 3 hb0.1
        omega
      have y1 := w8 (n := o1.tmod 3) (by omega)
      have y0 := w8 (n := o0.tmod 3) (by omega)
      have hprs : prOs os (i + 1) = prOs os i + (if (decide (o1.tmod 3 = 0) || decide (o0.tmod 3 = 0)) = true then 1 else 0) := by
        simp only [prOs, shut, ho1, ho0, Option.getD_some]
      have hle2 : i + 1 + 1 ≤ os.length := by omega
      have w6 := w64 (n := (i : Int) + 1 + 1) (by omega)
      rw [hprs] at ih
      by_cases k1 : o1.tmod 3 = 0
      · simp [k1] at ih
        simp [-List.length_flatMap, -List.map_take, eF, h1, h4, f4, f6, h7, s1, s2, s9, bd8, hd, w1, w2, w3, hlt, hI, hI0, pf, pf2, set1, hd2, set2, w5, c1, c0, y1, y0, k1, hle2]
        exact WL.to ih (by simp [bd8, w6]) (by simp [← f3]) fun x e σ hh => by simpa [bd8] using hh
      · by_cases k0 : o0.tmod 3 = 0
        · simp [k1, k0] at ih
          simp [-List.length_flatMap, -List.map_take, eF, h1, h4, f4, f6, h7, s1, s2, s9, bd8, hd, w1, w2, w3, hlt, hI, hI0, pf, pf2, set1, hd2, set2, w5, c1, c0, y1, y0, k1, k0, hle2]
          exact WL.to ih (by simp [bd8, w6]) (by simp [← f3]) fun x e σ hh => by simpa [bd8] using hh
        · simp [k1, k0] at ih
          simp [-List.length_flatMap, -List.map_take, eF, h1, h4, f4, f6, h7, s1, s2, s9, bd8, hd, w1, w2, w3, hlt, hI, hI0, pf, pf2, set1, hd2, set2, w5, c1, c0, y1, y0, k1, k0, hle2]
          exact WL.to ih (by simp [bd8, w6]) (by simp [← f3]) fun x e σ hh => by simpa [bd8] using hh
end Go.Proofs.Ytehandllpmlcoaa
