/-
  The values of a model; whether it fits; rates and plans.
-/
import Derived.Test.YtehandllpmlcoaaGreatR5
set_option linter.unusedVariables false
set_option linter.unusedSimpArgs false
namespace Go.Proofs.YtehandllpmlcoaaGreat
open Go Go.Abs Go.Rock
variable {σ : Stack}

theorem intE_sub {l : List Int} {i n : Nat} : ((l.flatMap intE).drop i).take n = ((l.drop i).take n).flatMap intE := by
  simp only [show intE = fun n => [D.int .i64 n] from rfl, flat_one, ← List.map_drop, ← List.map_take]
theorem intE_at {l : List Int} {j : Nat} {x : Int} (h : l[j]? = some x) : ((l.flatMap intE).drop j).take 1 = [.int .i64 x] := by
  have := flat_at (f := intE) (w := 1) (fun _ => rfl) h
  simpa using this

theorem cl_rw (l : List Rw) : D.cleanL (l.flatMap Rw.enc) = true := k_clean (fun x => by simp) l
theorem cl_bore (l : List Bore) : D.cleanL (l.flatMap Bore.enc) = true := k_clean (fun x => by simp) l
theorem cl_int (l : List Int) : D.cleanL (l.flatMap intE) = true := k_clean (fun x => by simp) l
theorem cl_blk (l : List Rock.Blk) : D.cleanL (l.flatMap Blk.enc) = true := k_clean (fun x => by simp) l

/-- What is known of a valid bed. -/
structure Bv (b : Bed) : Prop where
  x : 1 ≤ b.f.x ∧ b.f.x ≤ 8
  y : 1 ≤ b.f.y ∧ b.f.y ≤ 8
  z : 1 ≤ b.f.z ∧ b.f.z ≤ 8
  k : 4 ≤ b.f.k ∧ b.f.k ≤ 6
  sz : b.f.size = ((b.n : Nat) : Int)
  n : 1 ≤ b.n ∧ b.n ≤ 64
  tab : tabOk b.tab = true
  stiff : 1 ≤ b.stiff ∧ b.stiff ≤ 100000
  lift : 0 ≤ b.lift ∧ b.lift ≤ 1000
  deep : 0 ≤ b.deep ∧ b.deep ≤ 3000
  wells : b.wells.length ≤ 8
  ok : wellsOk b.size [] b.wells = true
theorem Bv.of {b : Bed} (h : b.valid = true) : Bv b := by
  simp only [Bed.valid, Bed.ok1, Bool.and_eq_true, decide_eq_true_eq] at h
  obtain ⟨⟨h1, h2, h3, h4, h5, h6, h7⟩, h8⟩ := h
  obtain ⟨g1, g2, g3, g4, g5⟩ := Fld.valid_iff.1 h1
  obtain ⟨_, g6⟩ := Fld.sz g1 g2 g3
  refine ⟨g1, g2, g3, ⟨h2, g5.2⟩, ?_, ?_, h3, inn_iff.1 h4, inn_iff.1 h5, inn_iff.1 h6, h7, h8⟩
  · unfold Bed.n Bed.size Fld.size; omega
  · unfold Bed.n Bed.size; unfold Fld.size at g4 ⊢; omega
theorem Bv.fv {b : Bed} (h : Bv b) : b.f.valid = true := Fld.valid_iff.2 ⟨h.x, h.y, h.z, by have := h.sz; have := h.n; omega, by have := h.k; omega⟩

/-- A model whose values are as many as the bed asks. -/
structure Mv (b : Bed) (m : Mdl) : Prop where
  bv : Bv b
  len : (m.vals.length : Int) = b.f.k * b.f.size
theorem Mv.le {b : Bed} {m : Mdl} (h : Mv b m) : 4 * b.n ≤ m.vals.length ∧ m.vals.length ≤ 384 := by
  have h1 := h.bv.k; have h2 := h.bv.sz; have h3 := h.bv.n; have h4 := h.len
  have h5 := (Int.mul_le_mul_of_nonneg_right h1.1 (by omega : (0 : Int) ≤ b.f.size))
  have h6 := mul_b (a := b.f.k) (b := b.f.size) (A := 6) (B := 64) (by omega) h1.2 (by omega) (by omega)
  omega
theorem C_rsize' {b : Bed} (h : Bv b) : lim T (.call false i_rock_Bed_size [.agg [.int .i64 b.f.x, .int .i64 b.f.y, .int .i64 b.f.z, .int .i64 b.f.k, .lst b.tab.length (b.tab.flatMap Rw.enc), .int .i64 b.stiff, .int .i64 b.lift, .int .i64 b.deep, .lst b.wells.length (b.wells.flatMap Bore.enc)]] σ) = some (.val (.int .i64 b.n) σ) := by
  have := C_rsize (σ := σ) (b := b) h.x h.y h.z
  rw [show b.size = ((b.n : Nat) : Int) from h.sz] at this
  exact this

theorem C_kind {b : Bed} {m : Mdl} (h : Mv b m) {k : Nat} (hk : k < 4) : lim T (.call false i_rock_bedded_kind [.agg [.int .i64 b.f.x, .int .i64 b.f.y, .int .i64 b.f.z, .int .i64 b.f.k, .lst b.tab.length (b.tab.flatMap Rw.enc), .int .i64 b.stiff, .int .i64 b.lift, .int .i64 b.deep, .lst b.wells.length (b.wells.flatMap Bore.enc), .str m.name, .lst m.vals.length (m.vals.flatMap intE)], .int .i64 k] σ) = some (.val (.lst b.n ((kindL b m k).flatMap intE)) σ) := by
  refine call_of T_rock_bedded_kind e_rock_bedded_kind rfl ?_
  obtain ⟨h1, h2⟩ := h.le
  have h3 := h.bv.n
  have hs := fun σ => C_rsize' (σ := σ) h.bv
  have e1 : (k : Int) * (b.n : Int) = ((k * b.n : Nat) : Int) := by push_cast; rfl
  have e2 : ((k : Int) + 1) * (b.n : Int) = (((k + 1) * b.n : Nat) : Int) := by push_cast; rfl
  have b1 : (k + 1) * b.n ≤ m.vals.length := Nat.le_trans (Nat.mul_le_mul_right _ (by omega : k + 1 ≤ 4)) h1
  have b2 : (k + 1) * b.n = k * b.n + b.n := Nat.succ_mul _ _
  have w1 := w64 (n := (k : Int) * b.n) (by rw [e1]; omega)
  have w2 := w64 (n := (k : Int) + 1) (by omega)
  have w3 := w64 (n := ((k : Int) + 1) * b.n) (by rw [e2]; omega)
  have e3 : (k + 1) * b.n - k * b.n = b.n := by omega
  have hsub := intE_sub (l := m.vals) (i := k * b.n) (n := b.n)
  have hle : (k : Int) * b.n ≤ ((k : Int) + 1) * b.n := by rw [e1, e2]; omega
  simp [-List.length_flatMap, -List.map_take, eF, hs, w1, w2, w3]
  rw [e1, e2]
  have c1 : (0 : Int) ≤ ((k * b.n : Nat) : Int) := by omega
  have c2 : ((k * b.n : Nat) : Int) ≤ (((k + 1) * b.n : Nat) : Int) := by omega
  have c3 : (((k + 1) * b.n : Nat) : Int) ≤ (m.vals.length : Int) := by omega
  have c4 : (0 : Int) ≤ (((k + 1) * b.n : Nat) : Int) := by omega
  simp only [c1, c2, c3, c4, and_self, if_true, Int.toNat_natCast, Option.bind_some, Option.map_some, WD_some, e3, hsub]
  simp [-List.length_flatMap, -List.map_take, eF, kindL, hle, e3, hsub, cl_int]

theorem kindL_len {b : Bed} {m : Mdl} (h : Mv b m) {k : Nat} (hk : k < 4) : (kindL b m k).length = b.n := by
  obtain ⟨h1, h2⟩ := h.le
  have b1 : (k + 1) * b.n ≤ m.vals.length := Nat.le_trans (Nat.mul_le_mul_right _ (by omega : k + 1 ≤ 4)) h1
  have b2 : (k + 1) * b.n = k * b.n + b.n := Nat.succ_mul _ _
  simp [kindL]; omega
theorem kindL_at {b : Bed} {m : Mdl} (h : Mv b m) {k i : Nat} (hk : k < 4) (hi : i < b.n) : (kindL b m k)[i]? = some (kindAt b m k i) := by
  obtain ⟨h1, h2⟩ := h.le
  have b1 : (k + 1) * b.n ≤ m.vals.length := Nat.le_trans (Nat.mul_le_mul_right _ (by omega : k + 1 ≤ 4)) h1
  have b2 : (k + 1) * b.n = k * b.n + b.n := Nat.succ_mul _ _
  have h3 : k * b.n + i < m.vals.length := by omega
  simp only [kindL, kindAt, List.getElem?_take, List.getElem?_drop, if_pos hi, List.getElem?_eq_getElem h3, Option.getD_some]
theorem C_hold {b : Bed} {m : Mdl} (h : Mv b m) {i : Nat} (hi : i < b.n) : lim T (.call false i_rock_bedded_hold [.agg [.int .i64 b.f.x, .int .i64 b.f.y, .int .i64 b.f.z, .int .i64 b.f.k, .lst b.tab.length (b.tab.flatMap Rw.enc), .int .i64 b.stiff, .int .i64 b.lift, .int .i64 b.deep, .lst b.wells.length (b.wells.flatMap Bore.enc), .str m.name, .lst m.vals.length (m.vals.flatMap intE)], .int .i64 i] σ) = some (.val (.int .i64 (hold b m i)) σ) := by
  refine call_of T_rock_bedded_hold e_rock_bedded_hold rfl ?_
  have hk := fun σ => C_kind (σ := σ) h (k := 0) (by omega)
  have ha := intE_at (kindL_at h (k := 0) (by omega) hi)
  simp only [Int.ofNat_zero] at hk
  simp [-List.length_flatMap, -List.map_take, eF, hk, hi, ha, hold]
theorem C_open {b : Bed} {m : Mdl} (h : Mv b m) {i : Nat} (hi : i < b.n) : lim T (.call false i_rock_bedded_open [.agg [.int .i64 b.f.x, .int .i64 b.f.y, .int .i64 b.f.z, .int .i64 b.f.k, .lst b.tab.length (b.tab.flatMap Rw.enc), .int .i64 b.stiff, .int .i64 b.lift, .int .i64 b.deep, .lst b.wells.length (b.wells.flatMap Bore.enc), .str m.name, .lst m.vals.length (m.vals.flatMap intE)], .int .i64 i] σ) = some (.val (.int .i64 (opn b m i)) σ) := by
  refine call_of T_rock_bedded_open e_rock_bedded_open rfl ?_
  have hk := fun σ => C_kind (σ := σ) h (k := 1) (by omega)
  have ha := intE_at (kindL_at h (k := 1) (by omega) hi)
  simp at hk
  simp [-List.length_flatMap, -List.map_take, eF, hk, hi, ha, opn]
theorem C_warm {b : Bed} {m : Mdl} (h : Mv b m) {i : Nat} (hi : i < b.n) : lim T (.call false i_rock_bedded_warm [.agg [.int .i64 b.f.x, .int .i64 b.f.y, .int .i64 b.f.z, .int .i64 b.f.k, .lst b.tab.length (b.tab.flatMap Rw.enc), .int .i64 b.stiff, .int .i64 b.lift, .int .i64 b.deep, .lst b.wells.length (b.wells.flatMap Bore.enc), .str m.name, .lst m.vals.length (m.vals.flatMap intE)], .int .i64 i] σ) = some (.val (.int .i64 (warm b m i)) σ) := by
  refine call_of T_rock_bedded_warm e_rock_bedded_warm rfl ?_
  have hk := fun σ => C_kind (σ := σ) h (k := 2) (by omega)
  have ha := intE_at (kindL_at h (k := 2) (by omega) hi)
  simp at hk
  simp [-List.length_flatMap, -List.map_take, eF, hk, hi, ha, warm]
theorem C_feed {b : Bed} {m : Mdl} (h : Mv b m) {i : Nat} (hi : i < b.n) : lim T (.call false i_rock_bedded_feed [.agg [.int .i64 b.f.x, .int .i64 b.f.y, .int .i64 b.f.z, .int .i64 b.f.k, .lst b.tab.length (b.tab.flatMap Rw.enc), .int .i64 b.stiff, .int .i64 b.lift, .int .i64 b.deep, .lst b.wells.length (b.wells.flatMap Bore.enc), .str m.name, .lst m.vals.length (m.vals.flatMap intE)], .int .i64 i] σ) = some (.val (.int .i64 (feed b m i)) σ) := by
  refine call_of T_rock_bedded_feed e_rock_bedded_feed rfl ?_
  have hk := fun σ => C_kind (σ := σ) h (k := 3) (by omega)
  have ha := intE_at (kindL_at h (k := 3) (by omega) hi)
  simp at hk
  simp [-List.length_flatMap, -List.map_take, eF, hk, hi, ha, feed]

/-! ### Does a model fit? -/
theorem C_fits1 {lo hi n : Int} : lim T (.call false i_rock_bedded_fits_1 [.int .i64 n, .ref σ.length 0 0 0] ([] :: [] :: [] :: [] :: [.cells 0 [.int .i64 lo, .int .i64 hi]] :: σ)) = some (.val (.bool (inn n lo hi)) ([] :: [] :: [] :: [] :: [.cells 0 [.int .i64 lo, .int .i64 hi]] :: σ)) := by
  refine call_of T_rock_bedded_fits_1 e_rock_bedded_fits_1 rfl ?_
  simp [-List.length_flatMap, -List.map_take, eF, C_rwithin]
theorem C_fitsAll {b : Bed} {m : Mdl} (h : Mv b m) {k : Nat} (hk : k < 4) {lo hi : Int} : lim T (.call false i_rock_all_int [.lst b.n ((kindL b m k).flatMap intE), .fn i_rock_bedded_fits_1 [] [.ref σ.length 0 0 0]] ([.cells 0 [.int .i64 lo, .int .i64 hi]] :: σ)) =
    some (.val (.bool (allB (kindL b m k) fun n => inn n lo hi)) ([.cells 0 [.int .i64 lo, .int .i64 hi]] :: σ)) := by
  have hl := kindL_len h hk
  have hn := h.bv.n
  have := all_ofC (eltInt .i64) (T := T) (f := i_rock_all_int) (g := i_rock_all_int_1) (h := i_slices_ContainsFunc_int) (i := i_slices_IndexFunc_int) (l := kindL b m k) (p := fun n => inn n lo hi) (fv := .fn i_rock_bedded_fits_1 [] [.ref σ.length 0 0 0]) (σ := [.cells 0 [.int .i64 lo, .int .i64 hi]] :: σ)
    rfl rfl rfl rfl (by omega) rfl rfl rfl (fun x _ => by
      rw [callv_fn]
      have := C_fits1 (σ := σ) (lo := lo) (hi := hi) (n := x)
      show R.vals (lim T (.call false i_rock_bedded_fits_1 [.int .i64 x, .ref σ.length 0 0 0] _)) = _
      rw [this]; rfl)
  rw [hl] at this
  exact this
def rgOf : Nat → Int × Int
  | 0 => (1000, 100000)
  | 1 => (0, 1000)
  | 2 => (0, 3000)
  | _ => (0, 1000)
def fitsFrom (b : Bed) (m : Mdl) (i : Nat) : Nat → Bool
  | 0 => true
  | n + 1 => allB (kindL b m i) (fun x => inn x (rgOf i).1 (rgOf i).2) && fitsFrom b m (i + 1) n
theorem L_fits {b : Bed} {m : Mdl} (h : Mv b m) : ∀ (n i : Nat), i + n = 4 →
    WL T [1, 17, 18] true f_rock_bedded_fits_l9 [(1, .cref [.int .i64 b.f.x, .int .i64 b.f.y, .int .i64 b.f.z, .int .i64 b.f.k, .lst b.tab.length (b.tab.flatMap Rw.enc), .int .i64 b.stiff, .int .i64 b.lift, .int .i64 b.deep, .lst b.wells.length (b.wells.flatMap Bore.enc), .str m.name, .lst m.vals.length (m.vals.flatMap intE)]), (17, .agg [.int .i64 1000, .int .i64 100000, .int .i64 0, .int .i64 1000, .int .i64 0, .int .i64 3000, .int .i64 0, .int .i64 1000]), (18, .int .i64 i)] σ
      (fun x e σ' => σ' = σ ∧ if fitsFrom b m i n = true then x = .exit 0 else x = .ret ∧ get e 2 = .bool false)
  | 0, i, hi => by
    refine WL_stepS e_rock_bedded_fits_l9 ?_
    obtain rfl : i = 4 := by omega
    simp [-List.length_flatMap, -List.map_take, eF, fitsFrom, cl_rw, cl_bore, cl_int]
  | n + 1, i, hi => by
    refine WL_stepS e_rock_bedded_fits_l9 ?_
    have hk : i < 4 := by omega
    have hK := fun σ => C_kind (σ := σ) h hk
    have ih := L_fits h n (i + 1) (by omega)
    have hA := C_fitsAll (σ := σ) h hk (lo := (rgOf i).1) (hi := (rgOf i).2)
    simp only [fitsFrom]
    rcases Bool.eq_false_or_eq_true (allB (kindL b m i) (fun x => inn x (rgOf i).1 (rgOf i).2)) with hc | hc
    · rw [hc] at hA
      obtain rfl | rfl | rfl | rfl : i = 0 ∨ i = 1 ∨ i = 2 ∨ i = 3 := by omega
      all_goals
        simp only [rgOf] at hA hc ⊢
        try simp at hK
        simp [-List.length_flatMap, -List.map_take, eF, hK, hA, hc, cl_rw, cl_bore, cl_int]
        exact WL.to ih (by simp [cl_rw, cl_bore, cl_int]) (by simp [cl_rw, cl_bore, cl_int]) fun x e σ' hh => by simpa [hc] using hh
    · rw [hc] at hA
      obtain rfl | rfl | rfl | rfl : i = 0 ∨ i = 1 ∨ i = 2 ∨ i = 3 := by omega
      all_goals
        simp only [rgOf] at hA hc ⊢
        try simp at hK
        simp [-List.length_flatMap, -List.map_take, eF, hK, hA, hc, cl_rw, cl_bore, cl_int]
end Go.Proofs.YtehandllpmlcoaaGreat
