/-
  Beds without a list of wells.
-/
import Derived.Test.YtehandllpmlcoaaR19
set_option linter.unusedVariables false
set_option linter.unusedSimpArgs false
namespace Go.Proofs.Ytehandllpmlcoaa.Nil
open Go Go.Abs Go.Rock
variable {σ : Stack}

theorem C_wellsNil {fv : D} (h1 : fv.strip = fv) (h2 : fv.calm = fv) (h3 : fv.cells = some [fv]) {σ : Stack} : lim T (.call false i_rock_all_rock_Bore [.nils, fv] σ) = some (.val (.bool true) σ) := by
  have hI : ∀ (fv : D) (h1 : fv.strip = fv) (h2 : fv.calm = fv) (σ : Stack), lim T (.call false i_slices_IndexFunc_rock_Bore [.nils, fv] σ) = some (.val (.int .i64 (-1)) σ) := by
    intro fv h1 h2 σ
    refine call_of (show T i_slices_IndexFunc_rock_Bore = some (idxFn true 3) from rfl) (idxFn.eq_1 _ _) rfl ?_
    simp [h1, h2]
    refine WL_step (idxL.eq_1 _ _) ?_
    simp [h1, h2]
  have hC : ∀ (fv : D) (h1 : fv.strip = fv) (h2 : fv.calm = fv) (σ : Stack), lim T (.call false i_slices_ContainsFunc_rock_Bore [.nils, fv] σ) = some (.val (.bool false) σ) := by
    intro fv h1 h2 σ
    refine call_of (show T i_slices_ContainsFunc_rock_Bore = some (containsFn i_slices_IndexFunc_rock_Bore) from rfl) (containsFn.eq_1 _) rfl ?_
    simp [h1, h2, hI]
  refine call_of (show T i_rock_all_rock_Bore = some (allFn i_rock_all_rock_Bore_1 i_slices_ContainsFunc_rock_Bore) from rfl) (allFn.eq_1 _ _) rfl ?_
  simp [h1, h2, h3, hC]
theorem C_rsize {b : Bed} (hx : 1 ≤ b.f.x ∧ b.f.x ≤ 8) (hy : 1 ≤ b.f.y ∧ b.f.y ≤ 8) (hz : 1 ≤ b.f.z ∧ b.f.z ≤ 8) : lim T (.call false i_rock_Bed_size [.agg [.int .i64 b.f.x, .int .i64 b.f.y, .int .i64 b.f.z, .int .i64 b.f.k, .lst b.tab.length (b.tab.flatMap Rw.enc), .int .i64 b.stiff, .int .i64 b.lift, .int .i64 b.deep, .nils]] σ) = some (.val (.int .i64 b.size) σ) := by
  refine call_of T_rock_Bed_size e_rock_Bed_size rfl ?_
  obtain ⟨h1, h2⟩ := Fld.sz hx hy hz
  have w1 := w64 (n := b.f.x * b.f.y) (by omega)
  have w2 := w64 (n := b.f.x * b.f.y * b.f.z) (by omega)
  simp [-List.length_flatMap, -List.map_take, eF, w1, w2, Bed.size, Fld.size]

theorem C_bvalid {b : Bed} (hw : b.wells = []) (h1 : b.tab.length ≤ 1000000000) (h2 : b.wells.length ≤ 1000000000) : lim T (.call false i_rock_Bed_valid [.agg [.int .i64 b.f.x, .int .i64 b.f.y, .int .i64 b.f.z, .int .i64 b.f.k, .lst b.tab.length (b.tab.flatMap Rw.enc), .int .i64 b.stiff, .int .i64 b.lift, .int .i64 b.deep, .nils]] σ) = some (.val (.bool b.valid) σ) := by
  refine call_of T_rock_Bed_valid e_rock_Bed_valid rfl ?_
  have hT := fun σ => C_CheckTable (σ := σ) (l := b.tab) h1
  unfold Bed.valid Bed.ok1
  cases hc1 : b.f.valid
  · simp [-List.length_flatMap, -List.map_take, eF, C_CheckField, Fld.shape, hc1]
  by_cases hc2 : b.f.k < 4
  · simp [-List.length_flatMap, -List.map_take, eF, C_CheckField, Fld.shape, hc1, hc2, show ¬ 4 ≤ b.f.k by omega]
  have hc2' : 4 ≤ b.f.k := by omega
  cases hc3 : tabOk b.tab
  · simp [-List.length_flatMap, -List.map_take, eF, C_CheckField, Fld.shape, hc1, hc2, hT, hc3]
  cases hc4 : inn b.stiff 1 100000
  · simp [-List.length_flatMap, -List.map_take, eF, C_CheckField, Fld.shape, hc1, hc2, hT, hc3, C_rwithin, hc4]
  cases hc5 : inn b.lift 0 1000
  · simp [-List.length_flatMap, -List.map_take, eF, C_CheckField, Fld.shape, hc1, hc2, hT, hc3, C_rwithin, hc4, hc5]
  cases hc6 : inn b.deep 0 3000
  · simp [-List.length_flatMap, -List.map_take, eF, C_CheckField, Fld.shape, hc1, hc2, hT, hc3, C_rwithin, hc4, hc5, hc6]
  obtain ⟨g1, g2, g3, g4, g5⟩ := Fld.valid_iff.1 hc1
  obtain ⟨_, g6⟩ := Fld.sz g1 g2 g3
  have hsz := fun σ => C_rsize (σ := σ) (b := b) g1 g2 g3
  have hs : b.size = ((b.n : Nat) : Int) := by unfold Bed.n Bed.size Fld.size; omega
  have hn : b.n ≤ 512 := by unfold Bed.n Bed.size Fld.size; omega
  have hnil : ((List.range b.n).flatMap fun _ => [D.bool false]) = (List.replicate b.n false).flatMap boolE := by
    have : ∀ n, ((List.range n).flatMap fun _ => [D.bool false]) = (List.replicate n false).flatMap boolE := by
      intro n
      induction n with
      | zero => rfl
      | succ n ih => rw [List.range_succ, List.flatMap_append, ih, List.replicate_succ']; simp [boolE]
    exact this _
  have hall := fun σ => C_wellsNil (fv := .fn i_rock_Bed_valid_1 [] [.ref (σ : Stack).length 1 0 0]) (σ := [.cells 0 ((List.replicate b.n false).flatMap boolE), .cells 0 [.sl σ.length 0 0 0 b.n 1]] :: σ) rfl rfl rfl
  have hroom : (b.n : Int) ≤ 70368744177664 := by omega
  rw [hs] at hsz
  simp [-List.length_flatMap, -List.map_take, eF, C_CheckField, Fld.shape, hc1, hc2, hT, hc3, C_rwithin, hc4, hc5, hc6, hsz, room, hroom, hnil, hall, hc2', hw, wellsOk]
theorem C_rsize' {b : Bed} (h : Bv b) : lim T (.call false i_rock_Bed_size [.agg [.int .i64 b.f.x, .int .i64 b.f.y, .int .i64 b.f.z, .int .i64 b.f.k, .lst b.tab.length (b.tab.flatMap Rw.enc), .int .i64 b.stiff, .int .i64 b.lift, .int .i64 b.deep, .nils]] σ) = some (.val (.int .i64 b.n) σ) := by
  have := C_rsize (σ := σ) (b := b) h.x h.y h.z
  rw [show b.size = ((b.n : Nat) : Int) from h.sz] at this
  exact this

theorem C_kind {b : Bed} {m : Mdl} (h : Mv b m) {k : Nat} (hk : k < 4) : lim T (.call false i_rock_bedded_kind [.agg [.int .i64 b.f.x, .int .i64 b.f.y, .int .i64 b.f.z, .int .i64 b.f.k, .lst b.tab.length (b.tab.flatMap Rw.enc), .int .i64 b.stiff, .int .i64 b.lift, .int .i64 b.deep, .nils, .str m.name, .lst m.vals.length (m.vals.flatMap intE)], .int .i64 k] σ) = some (.val (.lst b.n ((kindL b m k).flatMap intE)) σ) := by
  refine call_of T_rock_bedded_kind e_rock_bedded_kind rfl ?_
  obtain ⟨h1, h2⟩ := h.le
  have h3 := h.bv.n
  have hs := fun σ => C_rsize' (σ := σ) h.bv
  have e1 : (k : Int) * (b.n : Int) = ((k * b.n : Nat) : Int) := by push_cast; rfl
  have e2 : ((k : Int) + 1) * (b.n : Int) = (((k + 1) * b.n : Nat) : Int) := by push_cast; rfl
  have b1 : (k + 1) * b.n ≤ m.vals.length := Nat.le_trans (Nat.mul_le_mul_right _ (by omega : k + 1 ≤ 4)) h1
  have b2 : (k + 1) * b.n = k * b.n + b.n := Nat.succ_mul _ _
  have w1 := w64 (n := (k : Int) * b.n) (by rw [e1]; omega)
  have w2 := w64 (n := (k : Int) + 1) (by omega)
  have w3 := w64 (n := ((k : Int) + 1) * b.n) (by rw [e2]; omega)
  have e3 : (k + 1) * b.n - k * b.n = b.n := by omega
  have hsub := intE_sub (l := m.vals) (i := k * b.n) (n := b.n)
  have hle : (k : Int) * b.n ≤ ((k : Int) + 1) * b.n := by rw [e1, e2]; omega
  simp [-List.length_flatMap, -List.map_take, eF, hs, w1, w2, w3]
  rw [e1, e2]
  have c1 : (0 : Int) ≤ ((k * b.n : Nat) : Int) := by omega
  have c2 : ((k * b.n : Nat) : Int) ≤ (((k + 1) * b.n : Nat) : Int) := by omega
  have c3 : (((k + 1) * b.n : Nat) : Int) ≤ (m.vals.length : Int) := by omega
  have c4 : (0 : Int) ≤ (((k + 1) * b.n : Nat) : Int) := by omega
  simp only [c1, c2, c3, c4, and_self, if_true, Int.toNat_natCast, Option.bind_some, Option.map_some, WD_some, e3, hsub]
  simp [-List.length_flatMap, -List.map_take, eF, kindL, hle, e3, hsub, cl_int]

theorem C_hold {b : Bed} {m : Mdl} (h : Mv b m) {i : Nat} (hi : i < b.n) : lim T (.call false i_rock_bedded_hold [.agg [.int .i64 b.f.x, .int .i64 b.f.y, .int .i64 b.f.z, .int .i64 b.f.k, .lst b.tab.length (b.tab.flatMap Rw.enc), .int .i64 b.stiff, .int .i64 b.lift, .int .i64 b.deep, .nils, .str m.name, .lst m.vals.length (m.vals.flatMap intE)], .int .i64 i] σ) = some (.val (.int .i64 (hold b m i)) σ) := by
  refine call_of T_rock_bedded_hold e_rock_bedded_hold rfl ?_
  have hk := fun σ => C_kind (σ := σ) h (k := 0) (by omega)
  have ha := intE_at (kindL_at h (k := 0) (by omega) hi)
  simp only [Int.ofNat_zero] at hk
  simp [-List.length_flatMap, -List.map_take, eF, hk, hi, ha, hold]
theorem C_open {b : Bed} {m : Mdl} (h : Mv b m) {i : Nat} (hi : i < b.n) : lim T (.call false i_rock_bedded_open [.agg [.int .i64 b.f.x, .int .i64 b.f.y, .int .i64 b.f.z, .int .i64 b.f.k, .lst b.tab.length (b.tab.flatMap Rw.enc), .int .i64 b.stiff, .int .i64 b.lift, .int .i64 b.deep, .nils, .str m.name, .lst m.vals.length (m.vals.flatMap intE)], .int .i64 i] σ) = some (.val (.int .i64 (opn b m i)) σ) := by
  refine call_of T_rock_bedded_open e_rock_bedded_open rfl ?_
  have hk := fun σ => C_kind (σ := σ) h (k := 1) (by omega)
  have ha := intE_at (kindL_at h (k := 1) (by omega) hi)
  simp at hk
  simp [-List.length_flatMap, -List.map_take, eF, hk, hi, ha, opn]
theorem C_warm {b : Bed} {m : Mdl} (h : Mv b m) {i : Nat} (hi : i < b.n) : lim T (.call false i_rock_bedded_warm [.agg [.int .i64 b.f.x, .int .i64 b.f.y, .int .i64 b.f.z, .int .i64 b.f.k, .lst b.tab.length (b.tab.flatMap Rw.enc), .int .i64 b.stiff, .int .i64 b.lift, .int .i64 b.deep, .nils, .str m.name, .lst m.vals.length (m.vals.flatMap intE)], .int .i64 i] σ) = some (.val (.int .i64 (warm b m i)) σ) := by
  refine call_of T_rock_bedded_warm e_rock_bedded_warm rfl ?_
  have hk := fun σ => C_kind (σ := σ) h (k := 2) (by omega)
  have ha := intE_at (kindL_at h (k := 2) (by omega) hi)
  simp at hk
  simp [-List.length_flatMap, -List.map_take, eF, hk, hi, ha, warm]
theorem C_feed {b : Bed} {m : Mdl} (h : Mv b m) {i : Nat} (hi : i < b.n) : lim T (.call false i_rock_bedded_feed [.agg [.int .i64 b.f.x, .int .i64 b.f.y, .int .i64 b.f.z, .int .i64 b.f.k, .lst b.tab.length (b.tab.flatMap Rw.enc), .int .i64 b.stiff, .int .i64 b.lift, .int .i64 b.deep, .nils, .str m.name, .lst m.vals.length (m.vals.flatMap intE)], .int .i64 i] σ) = some (.val (.int .i64 (feed b m i)) σ) := by
  refine call_of T_rock_bedded_feed e_rock_bedded_feed rfl ?_
  have hk := fun σ => C_kind (σ := σ) h (k := 3) (by omega)
  have ha := intE_at (kindL_at h (k := 3) (by omega) hi)
  simp at hk
  simp [-List.length_flatMap, -List.map_take, eF, hk, hi, ha, feed]

theorem L_fits {b : Bed} {m : Mdl} (h : Mv b m) : ∀ (n i : Nat), i + n = 4 →
    WL T [1, 17, 18] true f_rock_bedded_fits_l9 [(1, .cref [.int .i64 b.f.x, .int .i64 b.f.y, .int .i64 b.f.z, .int .i64 b.f.k, .lst b.tab.length (b.tab.flatMap Rw.enc), .int .i64 b.stiff, .int .i64 b.lift, .int .i64 b.deep, .nils, .str m.name, .lst m.vals.length (m.vals.flatMap intE)]), (17, .agg [.int .i64 1000, .int .i64 100000, .int .i64 0, .int .i64 1000, .int .i64 0, .int .i64 3000, .int .i64 0, .int .i64 1000]), (18, .int .i64 i)] σ
      (fun x e σ' => σ' = σ ∧ if fitsFrom b m i n = true then x = .exit 0 else x = .ret ∧ get e 2 = .bool false)
  | 0, i, hi => by
    refine WL_stepS e_rock_bedded_fits_l9 ?_
    obtain rfl : i = 4 := by omega
    simp [-List.length_flatMap, -List.map_take, eF, fitsFrom, cl_rw, cl_bore, cl_int]
  | n + 1, i, hi => by
    refine WL_stepS e_rock_bedded_fits_l9 ?_
    have hk : i < 4 := by omega
    have hK := fun σ => C_kind (σ := σ) h hk
    have ih := L_fits h n (i + 1) (by omega)
    have hA := C_fitsAll (σ := σ) h hk (lo := (rgOf i).1) (hi := (rgOf i).2)
    simp only [fitsFrom]
    rcases Bool.eq_false_or_eq_true (allB (kindL b m i) (fun x => inn x (rgOf i).1 (rgOf i).2)) with hc | hc
    · rw [hc] at hA
      obtain rfl | rfl | rfl | rfl : i = 0 ∨ i = 1 ∨ i = 2 ∨ i = 3 := by omega
      all_goals
        simp only [rgOf] at hA hc ⊢
        try simp at hK
        simp [-List.length_flatMap, -List.map_take, eF, hK, hA, hc, cl_rw, cl_bore, cl_int]
        exact WL.to ih (by simp [cl_rw, cl_bore, cl_int]) (by simp [cl_rw, cl_bore, cl_int]) fun x e σ' hh => by simpa [hc] using hh
    · rw [hc] at hA
      obtain rfl | rfl | rfl | rfl : i = 0 ∨ i = 1 ∨ i = 2 ∨ i = 3 := by omega
      all_goals
        simp only [rgOf] at hA hc ⊢
        try simp at hK
        simp [-List.length_flatMap, -List.map_take, eF, hK, hA, hc, cl_rw, cl_bore, cl_int]
theorem C_fits {b : Bed} {m : Mdl} (h : Bv b) (hn : m.name.length ≤ 1000000000) (hl : m.vals.length ≤ 1000000000) : lim T (.call false i_rock_bedded_fits [.agg [.int .i64 b.f.x, .int .i64 b.f.y, .int .i64 b.f.z, .int .i64 b.f.k, .lst b.tab.length (b.tab.flatMap Rw.enc), .int .i64 b.stiff, .int .i64 b.lift, .int .i64 b.deep, .nils, .str m.name, .lst m.vals.length (m.vals.flatMap intE)]] σ) = some (.val (.bool (fits b m)) σ) := by
  refine call_of T_rock_bedded_fits e_rock_bedded_fits rfl ?_
  have hC := fun σ => C_CheckModels (σ := σ) (f := b.f) (l := [m]) (by simpa using ⟨hn, hl⟩) (by simp)
  simp at hC
  by_cases hc : checkModels b.f [m] = 0
  · have hm := Mv.of h hc
    simp [-List.length_flatMap, -List.map_take, eF, hC, hc]
    refine WL.to (L_fits (σ := [] :: σ) hm 4 0 (by omega)) (by simp) rfl ?_
    rintro x e σ' ⟨rfl, hh⟩
    have he : fitsFrom b m 0 4 = fits b m := by
      simp [fitsFrom, fits, hc, rgOf]
    rw [he] at hh
    cases hf : fits b m
    · rw [hf] at hh
      simp at hh
      simp [hh]
    · rw [hf] at hh
      simp at hh
      subst hh
      simp [-List.length_flatMap, -List.map_take, eF]
  · simp [-List.length_flatMap, -List.map_take, eF, hC, hc, fits]
theorem C_bed {b : Bed} {m : Mdl} (hw : b.wells = []) (h1 : b.tab.length ≤ 1000000000) (h2 : b.wells.length ≤ 1000000000) (hn : m.name.length ≤ 1000000000) (hl : m.vals.length ≤ 1000000000) (hb : Bd b m = true) :
    lim T (.call false i_rock_bed [.agg [.int .i64 b.f.x, .int .i64 b.f.y, .int .i64 b.f.z, .int .i64 b.f.k, .lst b.tab.length (b.tab.flatMap Rw.enc), .int .i64 b.stiff, .int .i64 b.lift, .int .i64 b.deep, .nils], .agg [.str m.name, .lst m.vals.length (m.vals.flatMap intE)]] σ) = some (.val (.tup [.agg [.int .i64 b.f.x, .int .i64 b.f.y, .int .i64 b.f.z, .int .i64 b.f.k, .lst b.tab.length (b.tab.flatMap Rw.enc), .int .i64 b.stiff, .int .i64 b.lift, .int .i64 b.deep, .nils, .str m.name, .lst m.vals.length (m.vals.flatMap intE)], .int .i64 0]) σ) := by
  refine call_of T_rock_bed e_rock_bed rfl ?_
  simp only [Bd, Bool.and_eq_true] at hb
  have hf := fun σ => C_fits (σ := σ) (Bv.of hb.1) hn hl
  simp [-List.length_flatMap, -List.map_take, eF, C_bvalid hw h1 h2, hb.1, hf, hb.2, cl_rw, cl_bore, cl_int]
theorem C_bedNo {b : Bed} {m : Mdl} (hw : b.wells = []) (h1 : b.tab.length ≤ 1000000000) (h2 : b.wells.length ≤ 1000000000) (hn : m.name.length ≤ 1000000000) (hl : m.vals.length ≤ 1000000000) (hb : Bd b m = false) : ∃ d,
    lim T (.call false i_rock_bed [.agg [.int .i64 b.f.x, .int .i64 b.f.y, .int .i64 b.f.z, .int .i64 b.f.k, .lst b.tab.length (b.tab.flatMap Rw.enc), .int .i64 b.stiff, .int .i64 b.lift, .int .i64 b.deep, .nils], .agg [.str m.name, .lst m.vals.length (m.vals.flatMap intE)]] σ) = some (.val (.tup [.agg d, .int .i64 1]) σ) ∧ d.length = 11 ∧ D.cleanL d = true := by
  refine ⟨[(.int .i64 0), (.int .i64 0), (.int .i64 0), (.int .i64 0), .nils, (.int .i64 0), (.int .i64 0), (.int .i64 0), .nils, (.str []), .nils], ?_, rfl, by simp⟩
  refine call_of T_rock_bed e_rock_bed rfl ?_
  cases hc : b.valid
  · simp [-List.length_flatMap, -List.map_take, eF, C_bvalid hw h1 h2, hc]
  · have hf := fun σ => C_fits (σ := σ) (Bv.of hc) hn hl
    have hb' : fits b m = false := by simpa [Bd, hc] using hb
    simp [-List.length_flatMap, -List.map_take, eF, C_bvalid hw h1 h2, hc, hf, hb']

theorem C_rates {b : Bed} (hw : b.wells = []) {l : List Int} (hl : l.length ≤ 1000000000) : lim T (.call false i_rock_Bed_rates [.agg [.int .i64 b.f.x, .int .i64 b.f.y, .int .i64 b.f.z, .int .i64 b.f.k, .lst b.tab.length (b.tab.flatMap Rw.enc), .int .i64 b.stiff, .int .i64 b.lift, .int .i64 b.deep, .nils], .lst l.length (l.flatMap intE)] σ) = some (.val (.int .i64 (ratesE b l)) σ) := by
  refine call_of T_rock_Bed_rates e_rock_Bed_rates rfl ?_
  have ha := fun σ => C_rallInt (σ := σ) (l := l) (p := fun n => inn n (-100000) 100000) (fv := .fn i_rock_Bed_rates_1 [] []) hl (Tests.fn fun x _ σ => C_rate1) rfl
  unfold ratesE
  rw [hw]
  by_cases hc1 : l.length = 0
  · have h0 : l = [] := List.length_eq_zero_iff.1 hc1
    subst h0
    simp [-List.length_flatMap, -List.map_take, eF] at ha ⊢
    simp [-List.length_flatMap, -List.map_take, eF, ha, allB]
  · have h0 : l ≠ [] := fun h => hc1 (by rw [h]; rfl)
    simp [-List.length_flatMap, -List.map_take, eF, hc1, h0, show ¬ (l.length : Int) = 0 by omega]
theorem L_plan {b : Bed} (hw : b.wells = []) {plan : List (List Int)} (hl : plan.length ≤ 1000000000) (hs : ∀ l ∈ plan, l.length ≤ 1000000000) : ∀ (m i : Nat), i + m = plan.length →
    WL T [2, 11, 12, 13] false f_rock_Bed_plan_l10 [(2, .cref [.int .i64 b.f.x, .int .i64 b.f.y, .int .i64 b.f.z, .int .i64 b.f.k, .lst b.tab.length (b.tab.flatMap Rw.enc), .int .i64 b.stiff, .int .i64 b.lift, .int .i64 b.deep, .nils]), (11, .lst plan.length (plan.flatMap inL)), (12, .int .i64 plan.length), (13, .int .i64 i)] σ
      (fun x e σ' => σ' = σ ∧ if firstE (ratesE b) (plan.drop i) = 0 then x = .exit 0 else x = .ret ∧ get e 4 = .int .i64 (firstE (ratesE b) (plan.drop i)))
  | 0, i, hi => by
    refine WL_step e_rock_Bed_plan_l10 ?_
    have h1 : ¬ i < plan.length := by omega
    have h2 : plan.drop i = [] := List.drop_eq_nil_of_le (by omega)
    simp [-List.length_flatMap, -List.map_take, eF, h1, h2, firstE]
  | m + 1, i, hi => by
    refine WL_step e_rock_Bed_plan_l10 ?_
    have h1 : i < plan.length := by omega
    obtain ⟨l, hx⟩ : ∃ l, plan[i]? = some l := ⟨_, List.getElem?_eq_getElem h1⟩
    have h2 := flat_at (f := inL) (w := 1) (fun _ => rfl) hx
    simp only [inL, Nat.mul_one] at h2
    have h4 := wnext h1 (by omega)
    have h5 := drop_at hx
    have hC := fun σ => C_rates (σ := σ) (b := b) hw (l := l) (hs l (List.mem_of_getElem? hx))
    rw [h5, firstE]
    have ih := L_plan (b := b) hw hl hs m (i + 1) (by omega)
    by_cases hc : ratesE b l = 0
    · simp [-List.length_flatMap, -List.map_take, eF, h1, h2, h4, hC, hc, inL]
      exact WL.to ih (by simp [inL]) rfl fun x e σ' hh => by simpa [hc] using hh
    · simp [-List.length_flatMap, -List.map_take, eF, h1, h2, h4, hC, hc, inL]
theorem C_plan {b : Bed} (hw : b.wells = []) {plan : List (List Int)} (hl : plan.length ≤ 1000000000) (hs : ∀ l ∈ plan, l.length ≤ 1000000000) :
    lim T (.call false i_rock_Bed_plan [.agg [.int .i64 b.f.x, .int .i64 b.f.y, .int .i64 b.f.z, .int .i64 b.f.k, .lst b.tab.length (b.tab.flatMap Rw.enc), .int .i64 b.stiff, .int .i64 b.lift, .int .i64 b.deep, .nils], .lst plan.length (plan.flatMap inL)] σ) = some (.val (.int .i64 (planE b plan)) σ) := by
  refine call_of T_rock_Bed_plan e_rock_Bed_plan rfl ?_
  unfold planE
  by_cases hc : 200 < plan.length
  · simp [-List.length_flatMap, -List.map_take, eF, hc, show (200 : Int) < plan.length by omega]
  · simp [-List.length_flatMap, -List.map_take, eF, hc, show ¬ (200 : Int) < plan.length by omega]
    refine WL.to (L_plan (σ := [] :: σ) (b := b) hw hl hs plan.length 0 (by omega)) (by simp) rfl ?_
    rintro x e σ' ⟨rfl, h⟩
    simp only [List.drop_zero] at h
    by_cases hc2 : firstE (ratesE b) plan = 0
    · rw [if_pos hc2] at h
      subst h
      simp [-List.length_flatMap, -List.map_take, eF, hc2, show plan.length ≤ 200 by omega]
    · rw [if_neg hc2] at h
      obtain ⟨rfl, h⟩ := h
      simp [h, show ¬ 200 < plan.length by omega]
theorem C_weight {b : Bed} {m : Mdl} (h : Bv b) {i : Nat} (hi : i < b.n) : lim T (.call false i_rock_bedded_weight [.agg [.int .i64 b.f.x, .int .i64 b.f.y, .int .i64 b.f.z, .int .i64 b.f.k, .lst b.tab.length (b.tab.flatMap Rw.enc), .int .i64 b.stiff, .int .i64 b.lift, .int .i64 b.deep, .nils, .str m.name, .lst m.vals.length (m.vals.flatMap intE)], .int .i64 i] σ) = some (.val (.int .i64 (weight b i)) σ) := by
  refine call_of T_rock_bedded_weight e_rock_bedded_weight rfl ?_
  have hx := h.x; have hy := h.y; have hn := h.n
  obtain ⟨s1, _⟩ := Fld.sz h.x h.y h.z
  have w1 := w64 (n := b.f.x * b.f.y) (by omega)
  have e1 : b.f.x * b.f.y = ((b.f.x.toNat * b.f.y.toNat : Nat) : Int) := by push_cast; rw [Int.toNat_of_nonneg (by omega), Int.toNat_of_nonneg (by omega)]
  have e2 : (i : Int) / (b.f.x * b.f.y) = ((i / (b.f.x.toNat * b.f.y.toNat) : Nat) : Int) := by
    rw [e1]; rfl
  have hle : i / (b.f.x.toNat * b.f.y.toNat) ≤ i := Nat.div_le_self _ _
  have hw := weight_b h hi
  have hq : (0 : Int) ≤ (i : Int) / (b.f.x * b.f.y) := by rw [e2]; exact Int.natCast_nonneg _
  have hq2 : (i : Int) / (b.f.x * b.f.y) ≤ 64 := by
    rw [e2]; have : i / (b.f.x.toNat * b.f.y.toNat) ≤ 64 := by omega
    exact Int.ofNat_le.2 this
  have w2 := w64 (n := (i : Int) / (b.f.x * b.f.y)) (by omega)
  have w3 := w64 (n := weight b i) (by omega)
  have hne : ¬ b.f.x * b.f.y = 0 := by omega
  have hnx : ¬ b.f.x = 0 := by omega
  have hny : ¬ b.f.y = 0 := by omega
  have e3 : (i : Int) / (b.f.x * b.f.y) * b.lift = weight b i := by rw [e2]; rfl
  simp [-List.length_flatMap, -List.map_take, eF, w1, w2, hne, hnx, hny, e3, w3]
theorem L_first {b : Bed} {m : Mdl} (h : Fv b m) : ∀ (n i v : Nat), i + n = b.n →
    WL T [1, 2, 6, 7] false f_rock_bedded_first_l6 [(1, .cref [.int .i64 b.f.x, .int .i64 b.f.y, .int .i64 b.f.z, .int .i64 b.f.k, .lst b.tab.length (b.tab.flatMap Rw.enc), .int .i64 b.stiff, .int .i64 b.lift, .int .i64 b.deep, .nils, .str m.name, .lst m.vals.length (m.vals.flatMap intE)]), (2, .sl σ.length 0 v 0 i 3), (6, .int .i64 b.n), (7, .int .i64 i)] ([.cells v (((firstSt b m).take i).flatMap Blk.enc)] :: σ)
      (fun x e σ' => x = .exit 0 ∧ get e 2 = .sl σ.length 0 (v + n) 0 (firstSt b m).length 3 ∧ σ' = [.cells (v + n) ((firstSt b m).flatMap Blk.enc)] :: σ)
  | 0, i, v, hi => by
    refine WL_step e_rock_bedded_first_l6 ?_
    obtain rfl : i = b.n := by omega
    have h3 : (firstSt b m).take b.n = firstSt b m := List.take_of_length_le (by simp [first_len])
    simp [-List.length_flatMap, -List.map_take, eF, h3, first_len]
  | n + 1, i, v, hi => by
    refine WL_step e_rock_bedded_first_l6 ?_
    have h1 : i < b.n := by omega
    have hn := h.bv.n
    have h4 := wnext h1 (by omega)
    have ho := fun σ => C_hold (σ := σ) h.toMv h1
    have hw := fun σ => C_warm (σ := σ) h.toMv h1
    have b1 := h.hold i h1
    have b2 := h.warm i h1
    have b3 := mul_n (by omega : 0 ≤ hold b m i) b1.2 b2.1 b2.2
    have w1 := w64 (n := hold b m i * warm b m i) (by omega)
    have ih := L_first h n (i + 1) (v + 1) (by omega)
    have hx : (firstSt b m)[i]? = some ⟨hold b m i, hold b m i * warm b m i, 0⟩ := by simp [firstSt, h1]
    have a3 := flat_snoc (f := Blk.enc) hx
    have a4 := blk_len ((firstSt b m).take i)
    rw [List.length_take, first_len, Nat.min_eq_left (by omega)] at a4
    have a6 : (((firstSt b m).take i).flatMap Blk.enc).take (i * 3) = ((firstSt b m).take i).flatMap Blk.enc := List.take_of_length_le (by omega)
    have h7 : (i + 1) * 24 ≤ room := by unfold room; omega
    simp [-List.length_flatMap, -List.map_take, eF, h1, h4, ho, hw, w1, a4, a6, h7, cl_rw, cl_bore, cl_int]
    refine WL.to ih (by simp [cl_rw, cl_bore, cl_int]) (by simp [← a3]) fun x e σ hh => by simpa [Nat.add_assoc, Nat.add_comm 1 n] using hh
theorem C_firstSt {b : Bed} {m : Mdl} (h : Fv b m) (hσ : σ ≠ []) : lim T (.call false i_rock_bedded_first [.agg [.int .i64 b.f.x, .int .i64 b.f.y, .int .i64 b.f.z, .int .i64 b.f.k, .lst b.tab.length (b.tab.flatMap Rw.enc), .int .i64 b.stiff, .int .i64 b.lift, .int .i64 b.deep, .nils, .str m.name, .lst m.vals.length (m.vals.flatMap intE)]] σ) = some (.val (stE (firstSt b m)) σ) := by
  refine call_of T_rock_bedded_first e_rock_bedded_first rfl ?_
  have hs := fun σ => C_rsize' (σ := σ) h.bv
  simp [-List.length_flatMap, -List.map_take, eF, hs, cl_rw, cl_bore, cl_int]
  refine WL.to (L_first (σ := σ) h b.n 0 0 (by omega)) (by simp) (by simp) ?_
  rintro x e σ' ⟨rfl, g2, rfl⟩
  simp [-List.length_flatMap, -List.map_take, eF, g2]
  rw [k_out (f := Blk.enc) (by decide) (fun _ => rfl) (fun x => by simp) hσ (by simp)]
  simp [stE]
theorem C_pressure {b : Bed} {m : Mdl} {s : List Rock.Blk} (h : Fv b m) (hs : Sv b s) {i : Nat} (hi : i < b.n) :
    lim T (.call false i_rock_bedded_pressure [.agg [.int .i64 b.f.x, .int .i64 b.f.y, .int .i64 b.f.z, .int .i64 b.f.k, .lst b.tab.length (b.tab.flatMap Rw.enc), .int .i64 b.stiff, .int .i64 b.lift, .int .i64 b.deep, .nils, .str m.name, .lst m.vals.length (m.vals.flatMap intE)], .lst s.length (s.flatMap Blk.enc), .int .i64 i] σ) = some (.val (.int .i64 (pressure b m s i)) σ) := by
  refine call_of T_rock_bedded_pressure e_rock_bedded_pressure rfl ?_
  have hw := fun σ => C_weight (σ := σ) (m := m) h.bv hi
  have ho := fun σ => C_hold (σ := σ) h.toMv hi
  have b1 := h.hold i hi
  obtain ⟨hx, b2, b3, b4⟩ := hs.at hi
  have hil : i < s.length := by have := hs.len; omega
  have hst := h.bv.stiff
  have b5 := weight_b h.bv hi
  have b6 : -100000000000 ≤ b.stiff * ((blkAt s i).m - hold b m i) ∧ b.stiff * ((blkAt s i).m - hold b m i) ≤ 100000000000 := by
    rcases Int.le_total (hold b m i) (blkAt s i).m with hh | hh
    · have := mul_n (a := b.stiff) (b := (blkAt s i).m - hold b m i) (A := 100000) (B := 1000000) (by omega) hst.2 (by omega) (by omega); omega
    · have := mul_n (a := b.stiff) (b := hold b m i - (blkAt s i).m) (A := 100000) (B := 1000000) (by omega) hst.2 (by omega) (by omega)
      have e : b.stiff * ((blkAt s i).m - hold b m i) = - (b.stiff * (hold b m i - (blkAt s i).m)) := by rw [← Int.mul_neg]; congr 1; omega
      omega
  have hd := fun σ => C_down (σ := σ) (n := b.stiff * ((blkAt s i).m - hold b m i)) (d := hold b m i) (by omega) (by omega)
  have b7 : -100000000000 ≤ down (b.stiff * ((blkAt s i).m - hold b m i)) (hold b m i) ∧ down (b.stiff * ((blkAt s i).m - hold b m i)) (hold b m i) ≤ 100000000000 := by
    unfold down
    constructor
    · rw [Int.le_ediv_iff_mul_le (by omega)]; omega
    · have := Int.ediv_le_self (b := hold b m i) (a := b.stiff * ((blkAt s i).m - hold b m i))
      rcases Int.le_total 0 (b.stiff * ((blkAt s i).m - hold b m i)) with hh | hh
      · have := this hh; omega
      · have := Int.ediv_le_of_le_mul (b := 0) (show 0 < hold b m i by omega) (by omega : b.stiff * ((blkAt s i).m - hold b m i) ≤ 0 * hold b m i); omega
  have w1 := w64 (n := (blkAt s i).m - hold b m i) (by omega)
  have w2 := w64 (n := b.stiff * ((blkAt s i).m - hold b m i)) (by omega)
  have w3 := w64 (n := weight b i + down (b.stiff * ((blkAt s i).m - hold b m i)) (hold b m i)) (by omega)
  have h3 := flat_at (f := Blk.enc) (w := 3) (fun _ => rfl) hx
  have htab := h.bv.tab
  simp only [tabOk, Bool.and_eq_true] at htab
  have ht := inn_iff.1 htab.1
  simp [-List.length_flatMap, -List.map_take, eF, hw, ho, hil, h3, w1, w2, hd, w3]
  refine WL.to (L_press (σ := [] :: σ) hx ⟨by omega, by omega⟩ (allB_iff.1 htab.2.1) (by omega) b.tab.length 0 (max 0 (weight b i + down (b.stiff * ((blkAt s i).m - hold b m i)) (hold b m i))) (by omega)) (by simp) rfl ?_
  rintro x e σ' ⟨rfl, rfl, g⟩
  simp [-List.length_flatMap, -List.map_take, eF, g, pressure]

theorem L_pressures {b : Bed} {m : Mdl} {s : List Rock.Blk} (h : Fv b m) (hs : Sv b s) : ∀ (n i v : Nat), i + n = s.length →
    WL T [1, 2, 4, 7, 8] false f_rock_bedded_pressures_l6 [(1, .lst s.length (s.flatMap Blk.enc)), (2, .cref [.int .i64 b.f.x, .int .i64 b.f.y, .int .i64 b.f.z, .int .i64 b.f.k, .lst b.tab.length (b.tab.flatMap Rw.enc), .int .i64 b.stiff, .int .i64 b.lift, .int .i64 b.deep, .nils, .str m.name, .lst m.vals.length (m.vals.flatMap intE)]), (4, .sl σ.length 0 v 0 i 1), (7, .int .i64 s.length), (8, .int .i64 i)] ([.cells v (((pressures b m s).take i).flatMap intE)] :: σ)
      (fun x e σ' => x = .exit 0 ∧ get e 4 = .sl σ.length 0 (v + n) 0 (pressures b m s).length 1 ∧ σ' = [.cells (v + n) ((pressures b m s).flatMap intE)] :: σ)
  | 0, i, v, hi => by
    refine WL_step e_rock_bedded_pressures_l6 ?_
    have h1 : ¬ i < s.length := by omega
    have h3 : (pressures b m s).take i = pressures b m s := List.take_of_length_le (by rw [pr_len]; omega)
    simp [-List.length_flatMap, -List.map_take, eF, h1, h3, pr_len]
    omega
  | n + 1, i, v, hi => by
    refine WL_step e_rock_bedded_pressures_l6 ?_
    have h1 : i < s.length := by omega
    have hn := h.bv.n; have hl := hs.len
    have h4 := wnext h1 (by omega)
    have hp := fun σ => C_pressure (σ := σ) h hs (i := i) (by omega)
    have ih := L_pressures h hs n (i + 1) (v + 1) (by omega)
    have hx : (pressures b m s)[i]? = some (pressure b m s i) := by simp [pressures, h1]
    have a3 := flat_snoc (f := intE) hx
    have a4 := int_len ((pressures b m s).take i)
    rw [List.length_take, pr_len, Nat.min_eq_left (by omega)] at a4
    have a6 : (((pressures b m s).take i).flatMap intE).take i = ((pressures b m s).take i).flatMap intE := List.take_of_length_le (by omega)
    have h7 : (i + 1) * 8 ≤ room := by unfold room; omega
    simp [-List.length_flatMap, -List.map_take, eF, h1, h4, hp, a4, a6, h7, cl_rw, cl_bore, cl_int]
    refine WL.to ih (by simp [cl_rw, cl_bore, cl_int]) (by simp [← a3]) fun x e σ hh => by simpa [Nat.add_assoc, Nat.add_comm 1 n] using hh
theorem C_pressures {b : Bed} {m : Mdl} {s : List Rock.Blk} (h : Fv b m) (hs : Sv b s) (hσ : σ ≠ []) : lim T (.call false i_rock_bedded_pressures [.agg [.int .i64 b.f.x, .int .i64 b.f.y, .int .i64 b.f.z, .int .i64 b.f.k, .lst b.tab.length (b.tab.flatMap Rw.enc), .int .i64 b.stiff, .int .i64 b.lift, .int .i64 b.deep, .nils, .str m.name, .lst m.vals.length (m.vals.flatMap intE)], .lst s.length (s.flatMap Blk.enc)] σ) = some (.val (.lst (pressures b m s).length ((pressures b m s).flatMap intE)) σ) := by
  refine call_of T_rock_bedded_pressures e_rock_bedded_pressures rfl ?_
  simp [-List.length_flatMap, -List.map_take, eF, cl_rw, cl_bore, cl_int]
  refine WL.to (L_pressures (σ := σ) h hs s.length 0 0 (by omega)) (by simp) (by simp) ?_
  rintro x e σ' ⟨rfl, g4, rfl⟩
  simp [-List.length_flatMap, -List.map_take, eF, g4]
  rw [k_out (f := intE) (by decide) (fun _ => rfl) (fun x => by simp) hσ (by simp)]
  simp
theorem C_state {b : Bed} {m : Mdl} {s : List Rock.Blk} (h : Bv b) (hl : s.length ≤ 1000000000) : lim T (.call false i_rock_bedded_state [.agg [.int .i64 b.f.x, .int .i64 b.f.y, .int .i64 b.f.z, .int .i64 b.f.k, .lst b.tab.length (b.tab.flatMap Rw.enc), .int .i64 b.stiff, .int .i64 b.lift, .int .i64 b.deep, .nils, .str m.name, .lst m.vals.length (m.vals.flatMap intE)], .lst s.length (s.flatMap Blk.enc)] σ) = some (.val (.bool (stateOk b s)) σ) := by
  refine call_of T_rock_bedded_state e_rock_bedded_state rfl ?_
  have hs := fun σ => C_rsize' (σ := σ) h
  have ha := fun σ => C_blkAll (σ := σ) (l := s) hl
  have hz := h.sz
  unfold stateOk
  by_cases hc1 : s.length = b.n
  · have hc2 : (s.length : Int) = b.size := by unfold Bed.size; omega
    have ha' := ha
    rw [hc1] at ha'
    have hc3 : ((b.n : Nat) : Int) = b.size := hz.symm
    cases hc : allB s Rock.Blk.valid <;> simp [-List.length_flatMap, -List.map_take, eF, hs, hc1, ha', hc, hc3]
  · have hc2 : ¬ (s.length : Int) = b.size := by unfold Bed.size; omega
    simp [-List.length_flatMap, -List.map_take, eF, hs, hc1, hc2, show ¬ (s.length : Int) = (b.n : Int) by omega]
theorem C_fed {b : Bed} {m : Mdl} (h : Fv b m) {i : Nat} (hi : i < b.n) : lim T (.call false i_rock_bedded_fed [.agg [.int .i64 b.f.x, .int .i64 b.f.y, .int .i64 b.f.z, .int .i64 b.f.k, .lst b.tab.length (b.tab.flatMap Rw.enc), .int .i64 b.stiff, .int .i64 b.lift, .int .i64 b.deep, .nils, .str m.name, .lst m.vals.length (m.vals.flatMap intE)], .int .i64 i] σ) = some (.val (.agg (fed b m i).enc) σ) := by
  refine call_of T_rock_bedded_fed e_rock_bedded_fed rfl ?_
  have hf := fun σ => C_feed (σ := σ) h.toMv hi
  have b1 := h.feed i hi
  have b2 := h.bv.deep
  have b3 := mul_n b1.1 b1.2 b2.1 b2.2
  have w1 := w64 (n := feed b m i * b.deep) (by omega)
  simp [-List.length_flatMap, -List.map_take, eF, hf, w1, fed]
theorem C_links {b : Bed} : lim T (.call false i_rock_Bed_links [.agg [.int .i64 b.f.x, .int .i64 b.f.y, .int .i64 b.f.z, .int .i64 b.f.k, .lst b.tab.length (b.tab.flatMap Rw.enc), .int .i64 b.stiff, .int .i64 b.lift, .int .i64 b.deep, .nils]] σ) = some (.val (.fn i_rock_Bed_links_1 [] [.cref [.int .i64 b.f.x, .int .i64 b.f.y, .int .i64 b.f.z, .int .i64 b.f.k, .lst b.tab.length (b.tab.flatMap Rw.enc), .int .i64 b.stiff, .int .i64 b.lift, .int .i64 b.deep, .nils]]) σ) := by
  refine call_of T_rock_Bed_links e_rock_Bed_links rfl ?_
  simp [-List.length_flatMap, -List.map_take, eF, cl_rw, cl_bore, cl_int]
theorem L_links {b : Bed} (h : Bv b) {lv j N : Nat} {St : List (Nat × Nat) → Stack} (hN : ∀ pre, (St pre).length = N)
    (hR : ∀ pre, ∀ l : Nat × Nat, l.1 < b.n → l.2 < b.n → l.1 ≠ l.2 → lim T (.round lv j [.agg [.int .i64 l.1, .int .i64 l.2]] ([] :: St pre)) = some (.val (.bool true) ([] :: St (pre ++ [l])))) : ∀ (n i : Nat) (pre : List (Nat × Nat)), i + n = b.n →
    WL T [0, 1, 3, 4, 13, 14] false f_rock_Bed_links_1_l8 [(0, .yld lv j), (1, .cref [.int .i64 b.f.x, .int .i64 b.f.y, .int .i64 b.f.z, .int .i64 b.f.k, .lst b.tab.length (b.tab.flatMap Rw.enc), .int .i64 b.stiff, .int .i64 b.lift, .int .i64 b.deep, .nils]), (3, .int .i64 b.f.x), (4, .int .i64 b.f.y), (13, .int .i64 b.n), (14, .int .i64 i)] ([] :: St pre)
      (fun x e σ' => σ' = [] :: St (pre ++ ((List.range b.n).drop i).flatMap (linksAt b)) ∧ x = .exit 0)
  | 0, i, pre, hi => by
    refine WL_step e_rock_Bed_links_1_l8 ?_
    have h1 : ¬ i < b.n := by omega
    have h2 : (List.range b.n).drop i = [] := List.drop_eq_nil_of_le (by simp; omega)
    simp [-List.length_flatMap, -List.map_take, eF, h1, h2]
  | n + 1, i, pre, hi => by
    refine WL_step e_rock_Bed_links_1_l8 ?_
    have h1 : i < b.n := by omega
    have hn := h.n
    have hx := h.x; have hy := h.y
    obtain ⟨eX, eY, p1, p2⟩ := h.xy
    have h4 := wnext h1 (by omega)
    have hs := fun σ => C_rsize' (σ := σ) h
    have h5 : (List.range b.n).drop i = i :: (List.range b.n).drop (i + 1) := drop_at (by simp [h1])
    have w1 := w64 (n := b.f.x * b.f.y) (by rw [eX, eY]; omega)
    obtain ⟨hnn, X1, Y1⟩ := h.nat
    have hx0 : ¬ b.f.x = 0 := by omega
    have hy0 : ¬ b.f.y = 0 := by omega
    have ih := fun pre => L_links h hN hR n (i + 1) pre (by omega)
    have e1 : ((i : Int) + 1).tmod b.f.x = (((i + 1) % b.f.x.toNat : Nat) : Int) := by
      conv => lhs; rw [eX]
      rfl
    have e2 : (i : Int) / b.f.x = ((i / b.f.x.toNat : Nat) : Int) := by
      conv => lhs; rw [eX]
      rfl
    have e2b : (i : Int).tdiv b.f.x = ((i / b.f.x.toNat : Nat) : Int) := by
      conv => lhs; rw [eX]
      rfl
    have e3 : ((i / b.f.x.toNat : Nat) : Int).tmod b.f.y = ((i / b.f.x.toNat % b.f.y.toNat : Nat) : Int) := by
      conv => lhs; rw [eY]
      rfl
    have e4 : b.f.x * b.f.y = ((b.f.x.toNat * b.f.y.toNat : Nat) : Int) := by
      conv => lhs; rw [eX, eY]
      rfl
    have hq : i / b.f.x.toNat ≤ i := Nat.div_le_self _ _
    have hr1 : (i + 1) % b.f.x.toNat ≤ i + 1 := Nat.mod_le _ _
    have hr2 : i / b.f.x.toNat % b.f.y.toNat ≤ i / b.f.x.toNat := Nat.mod_le _ _
    have l1 := link1 (W := b.f.y.toNat * b.f.z.toNat) (by rw [hnn, Nat.mul_assoc]) h1
    have l2 := link2 (Z := b.f.z.toNat) X1 Y1 hnn h1
    have R1 := fun pre hc => hR pre (i, i + 1) h1 (l1 hc) (by simp)
    have R2 := fun pre hc => hR pre (i, i + b.f.x.toNat) h1 (l2 hc) (by simp; omega)
    have R3 := fun pre hc => hR pre (i, i + b.f.x.toNat * b.f.y.toNat) h1 hc (by simp; omega)
    have z2 : ((i + b.f.x.toNat : Nat) : Int) = (i : Int) + b.f.x := by omega
    have z3 : ((i + b.f.x.toNat * b.f.y.toNat : Nat) : Int) = (i : Int) + b.f.x * b.f.y := by rw [e4]; omega
    have z1 : ((i + 1 : Nat) : Int) = (i : Int) + 1 := rfl
    simp only [z1, z2, z3] at R1 R2 R3
    generalize hA : i / b.f.x.toNat = A at *
    generalize hB : A % b.f.y.toNat = B at *
    generalize hC : (i + 1) % b.f.x.toNat = C at *
    generalize hP : b.f.x.toNat * b.f.y.toNat = P at *
    have v1 := w64 (n := (A : Int)) (by omega)
    have v2 := w64 (n := (B : Int)) (by omega)
    have v3 := w64 (n := (C : Int)) (by omega)
    have v4 := w64 (n := b.f.y - 1) (by omega)
    have v5 := w64 (n := (i : Int) + b.f.x) (by omega)
    have v6 := w64 (n := (i : Int) + b.f.x * b.f.y) (by rw [e4]; omega)
    have v7 := w64 (n := b.f.x * b.f.y) (by rw [e4]; omega)
    have c3 : ((i : Int) + b.f.x * b.f.y < (b.n : Int)) ↔ (i + P < b.n) := by rw [e4]; omega
    have hL : linksAt b i = (if C ≠ 0 then [(i, i + 1)] else []) ++ ((if B ≠ b.f.y.toNat - 1 then [(i, i + b.f.x.toNat)] else []) ++ (if i + P < b.n then [(i, i + P)] else [])) := by
      unfold linksAt; rw [hC, hA, hB, hP]
    rw [h5, List.flatMap_cons, hL]
    clear hL hnn l1 l2
    have t1 : ((C : Int) = 0) ↔ (C = 0) := by omega
    have t2 : ((B : Int) = b.f.y - 1) ↔ (B = b.f.y.toNat - 1) := by omega
    by_cases k1 : C = 0 <;> by_cases k2 : B = b.f.y.toNat - 1 <;> by_cases k3 : i + P < b.n
    all_goals
      first | (have u1 := t1.2 k1) | (have u1 := mt t1.1 k1)
      first | (have u2 := t2.2 k2) | (have u2 := mt t2.1 k2)
      have ih' := ih (pre ++ ((if C ≠ 0 then [(i, i + 1)] else []) ++ ((if B ≠ b.f.y.toNat - 1 then [(i, i + b.f.x.toNat)] else []) ++ (if i + P < b.n then [(i, i + P)] else []))))
      first
        | (rw [if_neg (not_not_intro k1)] at ih' ⊢) | (rw [if_pos k1] at ih' ⊢)
      first
        | (rw [if_neg (not_not_intro k2)] at ih' ⊢) | (rw [if_pos k2] at ih' ⊢)
      first
        | (rw [if_neg k3] at ih' ⊢) | (rw [if_pos k3] at ih' ⊢)
      have g1 := fun pre => R1 pre
      have g2 := fun pre => R2 pre
      have g3 := fun pre => R3 pre
      first | (have g1 := fun pre => R1 pre k1) | skip
      first | (have g2 := fun pre => R2 pre k2) | skip
      first | (have g3 := fun pre => R3 pre k3) | skip
      simp [-List.length_flatMap, -List.map_take, eF, h1, h4, hx0, hy0, e1, e2, e2b, e3, v1, v2, v3, v4, v5, v6, v7, c3, u1, u2, k1, k3, hs, g1, g2, g3]
      refine WL.to ih' (by simp) (by simp) fun x e σ hh => by simpa using hh
theorem C_links1 {b : Bed} (h : Bv b) {lv j N : Nat} {St : List (Nat × Nat) → Stack} (hN : ∀ pre, (St pre).length = N)
    (hR : ∀ pre, ∀ l : Nat × Nat, l.1 < b.n → l.2 < b.n → l.1 ≠ l.2 → lim T (.round lv j [.agg [.int .i64 l.1, .int .i64 l.2]] ([] :: St pre)) = some (.val (.bool true) ([] :: St (pre ++ [l])))) :
    lim T (.call false i_rock_Bed_links_1 [.yld lv j, .cref [.int .i64 b.f.x, .int .i64 b.f.y, .int .i64 b.f.z, .int .i64 b.f.k, .lst b.tab.length (b.tab.flatMap Rw.enc), .int .i64 b.stiff, .int .i64 b.lift, .int .i64 b.deep, .nils]] (St [])) = some (.val (.tup []) (St (links b))) := by
  refine call_to T_rock_Bed_links_1 e_rock_Bed_links_1 rfl (by rw [hN, hN]) ?_
  have hs := fun σ => C_rsize' (σ := σ) h
  simp [-List.length_flatMap, -List.map_take, eF, hs]
  refine WL.to (L_links h hN hR b.n 0 [] (by omega)) (by simp) rfl ?_
  rintro x e σ' ⟨rfl, rfl⟩
  simp [-List.length_flatMap, -List.map_take, eF, links]
def lpF (b : Bed) (m : Mdl) (s : List Rock.Blk) (L : Nat) : LoopSt :=
  { state := 0, pend := none, env := [(2, .cref [.int .i64 b.f.x, .int .i64 b.f.y, .int .i64 b.f.z, .int .i64 b.f.k, .lst b.tab.length (b.tab.flatMap Rw.enc), .int .i64 b.stiff, .int .i64 b.lift, .int .i64 b.deep, .nils, .str m.name, .lst m.vals.length (m.vals.flatMap intE)]), (3, .cref [.lst s.length (s.flatMap Blk.enc)]), (4, .undef), (5, .ref L 3 0 0), (6, .ref L 4 0 0)], params := [18], asg := f_rock_bedded_flows_a12, body := f_rock_bedded_flows_b12 }
def stF (A B : Abs.Blk) (b : Bed) (m : Mdl) (s : List Rock.Blk) (σ : Stack) (es : List ((Nat × Nat) × Rock.Blk)) : Stack :=
  [A, B, .cells 0 (flE es), .cells 0 [.yld σ.length 2], .cells 0 [.lst (pressures b m s).length ((pressures b m s).flatMap intE)], .loop (lpF b m s σ.length)] :: σ
theorem R_flow {A B : Abs.Blk} {b : Bed} {m : Mdl} {s : List Rock.Blk} (h : Fv b m) (hs : Sv b s) (es : List ((Nat × Nat) × Rock.Blk)) (l : Nat × Nat) (h1 : l.1 < b.n) (h2 : l.2 < b.n) :
    lim T (.round σ.length 5 [.agg [.int .i64 l.1, .int .i64 l.2]] ([] :: stF A B b m s σ es)) = some (.val (.bool true) ([] :: stF A B b m s σ (flowStep b m s (pressures b m s) es l))) := by
  have hn := h.bv.n
  have hl := hs.len
  have hp1 : (pressures b m s)[l.1]? = some (pressure b m s l.1) := by simp [pressures, hl, h1]
  have hp2 : (pressures b m s)[l.2]? = some (pressure b m s l.2) := by simp [pressures, hl, h2]
  have a1 := intE_at hp1
  have a2 := intE_at hp2
  have hpl : (pressures b m s).length = b.n := by rw [pr_len, hl]
  have bp1 := press_b h hs h1
  have bp2 := press_b h hs h2
  have bw1 := weight_b h.bv h1
  have bw2 := weight_b h.bv h2
  have cw1 := fun σ => C_weight (σ := σ) (m := m) h.bv h1
  have cw2 := fun σ => C_weight (σ := σ) (m := m) h.bv h2
  have co1 := fun σ => C_open (σ := σ) h.toMv h1
  have co2 := fun σ => C_open (σ := σ) h.toMv h2
  have bo1 := h.opn l.1 h1
  have bo2 := h.opn l.2 h2
  obtain ⟨x1, m1, m2, m3⟩ := hs.at h1
  obtain ⟨y1, n1, n2, n3⟩ := hs.at h2
  have f1 := flat_at (f := Blk.enc) (w := 3) (fun _ => rfl) x1
  have f2 := flat_at (f := Blk.enc) (w := 3) (fun _ => rfl) y1
  have w1 := w64 (n := pressure b m s l.1 - weight b l.1) (by omega)
  have w2 := w64 (n := pressure b m s l.1 - weight b l.1 - pressure b m s l.2) (by omega)
  have w3 := w64 (n := pressure b m s l.1 - weight b l.1 - pressure b m s l.2 + weight b l.2) (by omega)
  have hL1 : l.1 < s.length := by omega
  have hL2 : l.2 < s.length := by omega
  have hE : flowStep b m s (pressures b m s) es l = flowStep b m s (pressures b m s) es l := rfl
  conv at hE => rhs; unfold flowStep flowAt
  simp only [hp1, hp2, Option.getD_some] at hE
  generalize flowStep b m s (pressures b m s) es l = es' at *
  have hmin : 0 ≤ min (opn b m l.2) (opn b m l.1) ∧ min (opn b m l.2) (opn b m l.1) ≤ 1000 := by omega
  have hmin' : 0 ≤ min (opn b m l.1) (opn b m l.2) ∧ min (opn b m l.1) (opn b m l.2) ≤ 1000 := by omega
  generalize hw1 : weight b l.1 = W1 at *
  generalize hw2 : weight b l.2 = W2 at *
  generalize hq1 : pressure b m s l.1 = P1 at *
  generalize hq2 : pressure b m s l.2 = P2 at *
  generalize hD : P1 - W1 - P2 + W2 = d at *
  refine round_of (lp := lpF b m s σ.length) (by simp [stF]) rfl ?_
  rw [show (lpF b m s σ.length).asg = f_rock_bedded_flows_a12 from rfl, e_rock_bedded_flows_a12, show (lpF b m s σ.length).body = f_rock_bedded_flows_b12 from rfl]
  by_cases hd : d < 0
  · simp only [hd, if_true] at hE
    have b3 := mul_n hmin.1 hmin.2 (show 0 ≤ -d by omega) (show -d ≤ 1000000000000 by omega)
    have w4 := w64 (n := -d) (by omega)
    have d1 := Int.tdiv_eq_ediv_of_nonneg (b := 1000) b3.1
    have d2 := Int.tdiv_eq_ediv_of_nonneg (b := 8) (show 0 ≤ (blkAt s l.2).m by omega)
    generalize hX : min (opn b m l.2) (opn b m l.1) * -d = X at *
    have w5 := w64 (n := X) (by omega)
    generalize hY : X.tdiv 1000 = Y at *
    generalize hZ : (blkAt s l.2).m.tdiv 8 = Z at *
    have w6 := w64 (n := Y) (by rw [d1]; omega)
    have w7 := w64 (n := Z) (by rw [d2]; omega)
    by_cases hq : 0 < min Y Z
    · have hO := fun σ => C_out (σ := σ) (q := min Y Z) n1 n2 n3 ⟨by omega, by rw [d2]; omega⟩
      have hP := fun S h => mpPutL (S := S) (l := σ.length) (i := 2) (es := es) (k := (l.2, l.1)) (o := (blkAt s l.2).out (min Y Z)) h
      rw [if_pos hq] at hE
      simp only at hE
      subst hE
      generalize (blkAt s l.2).out (min Y Z) = O at *
      simp only [Blk.enc] at hO
      simp only [Blk.enc, kyL] at hP

      simp [-List.length_flatMap, -List.map_take, eF, WC_eq e_rock_bedded_flows_b12, lpF, stF, midR, hpl, h1, h2, a1, a2, cw1, cw2, w1, w2, w3, hD, hd, co1, co2, hL1, hL2, f1, f2, w4, w5, w6, w7, hX, hY, hZ, hq, hO, hP]
    · rw [if_neg hq] at hE
      simp only at hE
      subst hE
      simp [-List.length_flatMap, -List.map_take, eF, WC_eq e_rock_bedded_flows_b12, lpF, stF, midR, hpl, h1, h2, a1, a2, cw1, cw2, w1, w2, w3, hD, hd, co1, co2, hL1, hL2, f1, f2, w4, w5, w6, w7, hX, hY, hZ, hq]
  · simp only [hd, if_false] at hE
    have b3 := mul_n hmin'.1 hmin'.2 (show 0 ≤ d by omega) (show d ≤ 1000000000000 by omega)
    have w4 := w64 (n := d) (by omega)
    have d1 := Int.tdiv_eq_ediv_of_nonneg (b := 1000) b3.1
    have d2 := Int.tdiv_eq_ediv_of_nonneg (b := 8) (show 0 ≤ (blkAt s l.1).m by omega)
    generalize hX : min (opn b m l.1) (opn b m l.2) * d = X at *
    have w5 := w64 (n := X) (by omega)
    generalize hY : X.tdiv 1000 = Y at *
    generalize hZ : (blkAt s l.1).m.tdiv 8 = Z at *
    have w6 := w64 (n := Y) (by rw [d1]; omega)
    have w7 := w64 (n := Z) (by rw [d2]; omega)
    by_cases hq : 0 < min Y Z
    · have hO := fun σ => C_out (σ := σ) (q := min Y Z) m1 m2 m3 ⟨by omega, by rw [d2]; omega⟩
      have hP := fun S h => mpPutL (S := S) (l := σ.length) (i := 2) (es := es) (k := l) (o := (blkAt s l.1).out (min Y Z)) h
      rw [if_pos hq] at hE
      simp only at hE
      subst hE
      generalize (blkAt s l.1).out (min Y Z) = O at *
      simp only [Blk.enc] at hO
      simp only [Blk.enc, kyL] at hP

      simp [-List.length_flatMap, -List.map_take, eF, WC_eq e_rock_bedded_flows_b12, lpF, stF, midR, hpl, h1, h2, a1, a2, cw1, cw2, w1, w2, w3, hD, hd, co1, co2, hL1, hL2, f1, f2, w4, w5, w6, w7, hX, hY, hZ, hq, hO, hP]
    · rw [if_neg hq] at hE
      simp only at hE
      subst hE
      simp [-List.length_flatMap, -List.map_take, eF, WC_eq e_rock_bedded_flows_b12, lpF, stF, midR, hpl, h1, h2, a1, a2, cw1, cw2, w1, w2, w3, hD, hd, co1, co2, hL1, hL2, f1, f2, w4, w5, w6, w7, hX, hY, hZ, hq]
/-- The flows of a state, kept in the caller's segment. -/
theorem C_flows {A B : Abs.Blk} {b : Bed} {m : Mdl} {s : List Rock.Blk} (h : Fv b m) (hs : Sv b s) : ∃ X Y Z : Abs.Blk,
    lim T (.call true i_rock_bedded_flows [.agg [.int .i64 b.f.x, .int .i64 b.f.y, .int .i64 b.f.z, .int .i64 b.f.k, .lst b.tab.length (b.tab.flatMap Rw.enc), .int .i64 b.stiff, .int .i64 b.lift, .int .i64 b.deep, .nils, .str m.name, .lst m.vals.length (m.vals.flatMap intE)], .lst s.length (s.flatMap Blk.enc)] ([A, B] :: σ)) = some (.val (.yld σ.length 2) ([A, B, .cells 0 (flE (flows b m s)), X, Y, Z] :: σ)) := by
  refine ⟨.cells 0 [.yld σ.length 2], .cells 0 [.lst (pressures b m s).length ((pressures b m s).flatMap intE)], .loop { lpF b m s σ.length with state := 3 }, ?_⟩
  refine call_kp T_rock_bedded_flows e_rock_bedded_flows rfl ?_
  have hp := fun σ hσ => C_pressures (σ := σ) h hs hσ
  have hl := C_links1 (b := b) h.bv (lv := σ.length) (j := 5) (N := σ.length + 1) (St := fun pre => stF A B b m s σ (pre.foldl (flowStep b m s (pressures b m s)) [])) (fun pre => by simp [stF])
    (fun pre l h1 h2 _ => by rw [List.foldl_append]; exact R_flow h hs _ l h1 h2)
  have hm : mpD ([A, B] :: σ) .make [] = some (.yld σ.length 2, [A, B, .cells 0 (flE [])] :: σ) := by simp [mpD, flE]
  simp [-List.length_flatMap, -List.map_take, eF, hp, C_links, cl_rw, cl_bore, cl_int, cl_blk, hm]
  refine WC_rngf (d := .tup []) (σ2 := stF A B b m s σ (flows b m s)) (lp := lpF b m s σ.length) (by simp; exact ⟨rfl, rfl, rfl⟩) ?_ (by simp [stF]) (by simp [lpF]) ?_
  · simpa [lpF, stF, flows] using hl
  · simp [-List.length_flatMap, -List.map_take, lpF, stF, eF]
theorem C_stateSl {b : Bed} {m : Mdl} {s : List Rock.Blk} (h : Bv b) {lv bi v : Nat} {F : List Abs.Blk} (hF : F[bi]? = some (.cells v (s.flatMap Blk.enc))) (hs : seg? σ lv = some F) (hl : s.length = b.n) :
    lim T (.call false i_rock_bedded_state [.agg [.int .i64 b.f.x, .int .i64 b.f.y, .int .i64 b.f.z, .int .i64 b.f.k, .lst b.tab.length (b.tab.flatMap Rw.enc), .int .i64 b.stiff, .int .i64 b.lift, .int .i64 b.deep, .nils, .str m.name, .lst m.vals.length (m.vals.flatMap intE)], .sl lv bi v 0 s.length 3] σ) = some (.val (.bool (stateOk b s)) σ) := by
  refine call_of T_rock_bedded_state e_rock_bedded_state rfl ?_
  have hlt := seg_lt hs
  have hz := h.sz; have hn := h.n
  have hsz := fun σ => C_rsize' (σ := σ) h
  have ha := all_ofSl (T := T) (w := 3) (enc := Blk.enc) (fun _ => rfl) (f := i_rock_all_rock_Block) (g := i_rock_all_rock_Block_1) (h := i_slices_ContainsFunc_rock_Block) (i := i_slices_IndexFunc_rock_Block) (l := s) (p := Rock.Blk.valid) (fv := .fn i_rock_Block_valid [] []) rfl rfl rfl rfl hF (by omega) (Tests.fn fun x _ σ => C_blkValid) rfl (lv := lv) (F := F) (σ := [] :: σ) (by simp [seg?, hs, show ¬ σ.length = lv by omega])
  unfold stateOk
  have hc3 : ((b.n : Nat) : Int) = b.size := hz.symm
  rw [hl] at ha ⊢
  cases hc : allB s Rock.Blk.valid <;> simp [-List.length_flatMap, -List.map_take, eF, hsz, hl, ha, hc, hc3]

def envT (b : Bed) (m : Mdl) (s : List Rock.Blk) (rates : List Int) (L : Nat) : Env :=
  [(1, .lst s.length (s.flatMap Blk.enc)), (2, .lst rates.length (rates.flatMap intE)), (3, .cref [.int .i64 b.f.x, .int .i64 b.f.y, .int .i64 b.f.z, .int .i64 b.f.k, .lst b.tab.length (b.tab.flatMap Rw.enc), .int .i64 b.stiff, .int .i64 b.lift, .int .i64 b.deep, .nils, .str m.name, .lst m.vals.length (m.vals.flatMap intE)]), (9, .sl L 1 1 0 s.length 3), (23, .yld L 6)]
theorem L_move {b : Bed} {m : Mdl} {s : List Rock.Blk} {rates : List Int} {A X Y Z : Abs.Blk} {es : List ((Nat × Nat) × Rock.Blk)} {r : R} (hs : Sv b s) (hes : ∀ e ∈ es, Flw b e) (hel : es.length ≤ 192)
    (hr : WC (lim T) f_rock_bedded_tick_l29 ((25, .bool false) :: (24, .undef) :: envT b m s rates σ.length) (stT A X Y Z σ es (es.foldl flowMove s) .dead) fun x e' σ' => r = .ctl x e' σ') :
    ∀ (k : Nat) (js : List Nat), js.Nodup → (∀ j ∈ js, j < es.length) → (usL es.length js).length = k →
      lim T (.mloop [1, 2, 3, 9, 23] (.t 23) 24 25 0 f_rock_bedded_tick_l6 f_rock_bedded_tick_l29 (envT b m s rates σ.length) (stT A X Y Z σ es (js.foldr (fun j s => stp es s j) s) (itB σ.length es.length js))) = some r := by
  intro k
  induction k using Nat.strongRecOn with
  | _ k ih =>
  intro js hd hj hk
  by_cases hus : usL es.length js = []
  · have hall : ∀ j, j ∈ js ↔ j < es.length := by
      intro j
      refine ⟨hj j, fun hlt => ?_⟩
      have h1 : j ∉ usL es.length js := by rw [hus]; simp
      simpa [usL, hlt] using h1
    have hfin : js.foldr (fun j s => stp es s j) s = es.foldl flowMove s := by
      rw [← stp_all (js := js.reverse) ((List.reverse_perm js).nodup_iff.2 hd) (fun j => by simp [hall]), List.foldl_reverse]
    rw [hfin]
    have hit := iter_T (σ := σ) (A := A) (X := X) (Y := Y) (Z := Z) (es := es) (s := es.foldl flowMove s) (js := js)
    rw [hus] at hit
    refine mloop_end e_rock_bedded_tick_l6 rfl (by simp [envT]) hit ?_
    simp [stT, envT, itB] at hr ⊢
    exact hr
  · have hit := iter_T (σ := σ) (A := A) (X := X) (Y := Y) (Z := Z) (es := es) (s := js.foldr (fun j s => stp es s j) s) (js := js)
    refine mloop_of e_rock_bedded_tick_l6 rfl (by simp [envT]) hit hus ?_
    intro u hu
    have hu2 : u < es.length ∧ u ∉ js := by simpa [usL] using hu
    obtain ⟨e, he⟩ : ∃ e, es[u]? = some e := ⟨_, List.getElem?_eq_getElem hu2.1⟩
    have hf := hes e (List.mem_of_getElem? he)
    have hnext := ih _ (by rw [← hk]; exact us_lt hu) (u :: js) (List.nodup_cons.2 ⟨hu2.2, hd⟩) (by intro j hjm; rcases List.mem_cons.1 hjm with rfl | hjm; exact hu2.1; exact hj j hjm) rfl
    have hb := stp_bnd hes js s 1000000000000 hs.bnd
    have hjl : js.length ≤ 192 := by
      have h1 : js.length ≤ es.length := by
        have := hd.length_le_of_subset (l₂ := List.range es.length) (fun j hjm => by simpa using hj j hjm)
        simpa using this
      omega
    have hlen : (js.foldr (fun j s => stp es s j) s).length = b.n := by
      have : ∀ js : List Nat, (js.foldr (fun j s => stp es s j) s).length = s.length := by
        intro js; induction js with
        | nil => rfl
        | cons a l ih => simp only [List.foldr_cons, stp_len]; exact ih
      rw [this, hs.len]
    simp only [List.foldr_cons] at hnext
    generalize hs1 : js.foldr (fun j s => stp es s j) s = s1 at *
    have hstp : stp es s1 u = moveAt (moveAt s1 e.1.1 e.2 (-1)) e.1.2 e.2 1 := by simp [stp, he, flowMove]
    rw [hstp] at hnext
    have hbn : bnd 400000000000000 s1 := fun x hx => sm_mono (hb x hx) (by omega)
    have hb1 := move_bnd (i := e.1.1) (sign := -1) hbn hf.2 (.inr rfl) (by omega)
    obtain ⟨x1, y1⟩ := bnd_at hbn (i := e.1.1) (by have := hf.1.1; omega)
    obtain ⟨x2, y2⟩ := bnd_at hb1 (i := e.1.2) (by rw [move_len]; have := hf.1.2; omega)
    have hM1 : ∀ I, lim T (.call false i_rock_Block_move [.ref σ.length 1 1 (e.1.1 * 3), .agg [.int .i64 e.2.m, .int .i64 e.2.h, .int .i64 e.2.k], .int .i64 (-1)] ([A, .cells 1 (s1.flatMap Blk.enc), .cells 0 (flE es), X, Y, Z, I] :: σ)) =
        some (.val (.tup []) ([A, .cells 1 ((moveAt s1 e.1.1 e.2 (-1)).flatMap Blk.enc), .cells 0 (flE es), X, Y, Z, I] :: σ)) :=
      fun I => C_move (F := [A, .cells 1 (s1.flatMap Blk.enc), .cells 0 (flE es), X, Y, Z, I]) (j := 1) rfl x1 (sm_mono y1 (by omega)) (sm_mono hf.2 (by omega)) (.inr rfl)
    have hM2 : ∀ I, lim T (.call false i_rock_Block_move [.ref σ.length 1 1 (e.1.2 * 3), .agg [.int .i64 e.2.m, .int .i64 e.2.h, .int .i64 e.2.k], .int .i64 1] ([A, .cells 1 ((moveAt s1 e.1.1 e.2 (-1)).flatMap Blk.enc), .cells 0 (flE es), X, Y, Z, I] :: σ)) =
        some (.val (.tup []) ([A, .cells 1 ((moveAt (moveAt s1 e.1.1 e.2 (-1)) e.1.2 e.2 1).flatMap Blk.enc), .cells 0 (flE es), X, Y, Z, I] :: σ)) :=
      fun I => C_move (F := [A, .cells 1 ((moveAt s1 e.1.1 e.2 (-1)).flatMap Blk.enc), .cells 0 (flE es), X, Y, Z, I]) (j := 1) rfl x2 (sm_mono y2 (by omega)) (sm_mono hf.2 (by omega)) (.inl rfl)
    have hfe : (flE es)[u]? = some (.tup [.agg [.int .i64 e.1.1, .int .i64 e.1.2], .agg [.int .i64 e.2.m, .int .i64 e.2.h, .int .i64 e.2.k]]) := by simp [flE, he]
    have hfl : (flE es).length = es.length := by simp [flE]
    have hE : mpD ([A, .cells 1 (s1.flatMap Blk.enc), .cells 0 (flE es), X, Y, Z, .cells 1 (.yld σ.length 2 :: .int .i64 (es.length : Nat) :: .int .i64 (u : Nat) :: jsD js)] :: σ) .ent [.yld σ.length 6] =
        some (.tup [.agg [.int .i64 e.1.1, .int .i64 e.1.2], .agg [.int .i64 e.2.m, .int .i64 e.2.h, .int .i64 e.2.k]], [A, .cells 1 (s1.flatMap Blk.enc), .cells 0 (flE es), X, Y, Z, .cells 1 (.yld σ.length 2 :: .int .i64 (es.length : Nat) :: .int .i64 (u : Nat) :: jsD js)] :: σ) := by
      simp [mpD, mapD, hfl, hfe]
    have hi1 : e.1.1 < s.length := by have := hf.1.1; have := hs.len; omega
    have hi2 : e.1.2 < s.length := by have := hf.1.2; have := hs.len; omega
    simp [-List.length_flatMap, -List.map_take, envT, stT, itB, eF, hE, hM1, hM2, hi1, hi2, cl_rw, cl_bore, cl_int, cl_blk]
    simpa [envT, stT, itB, jsD] using hnext
theorem L_wells {b : Bed} {m : Mdl} {s s1 : List Rock.Blk} {rates : List Int} {A FL X Y Z W : Abs.Blk} (h : Fv b m) (hs : Sv b s) (hw : b.wells = []) (hr : Rv b rates) (hb : bnd 500000000000000 s1) (hl1 : s1.length = s.length) : ∀ (k j v : Nat), j + k = rates.length →
    WL T [1, 3, 9, 12, 41, 42, 43] false f_rock_bedded_tick_l19 [(1, .lst s.length (s.flatMap Blk.enc)), (3, .cref [.int .i64 b.f.x, .int .i64 b.f.y, .int .i64 b.f.z, .int .i64 b.f.k, .lst b.tab.length (b.tab.flatMap Rw.enc), .int .i64 b.stiff, .int .i64 b.lift, .int .i64 b.deep, .nils, .str m.name, .lst m.vals.length (m.vals.flatMap intE)]), (9, .sl σ.length 1 1 0 s.length 3), (12, .sl σ.length 7 v 0 j 3), (41, .lst rates.length (rates.flatMap intE)), (42, .int .i64 rates.length), (43, .int .i64 j)]
      ([A, .cells 1 ((wellsTo b s s1 rates j).flatMap Blk.enc), FL, X, Y, Z, W, .cells v (((yieldsOf b s rates).take j).flatMap Blk.enc)] :: σ)
      (fun x e σ' => x = .exit 2 ∧ get e 3 = .cref [.int .i64 b.f.x, .int .i64 b.f.y, .int .i64 b.f.z, .int .i64 b.f.k, .lst b.tab.length (b.tab.flatMap Rw.enc), .int .i64 b.stiff, .int .i64 b.lift, .int .i64 b.deep, .nils, .str m.name, .lst m.vals.length (m.vals.flatMap intE)] ∧ get e 9 = .sl σ.length 1 1 0 s.length 3 ∧ get e 12 = .sl σ.length 7 (v + k) 0 rates.length 3 ∧
        σ' = [A, .cells 1 ((wellsTo b s s1 rates rates.length).flatMap Blk.enc), FL, X, Y, Z, W, .cells (v + k) ((yieldsOf b s rates).flatMap Blk.enc)] :: σ)
  | 0, j, v, hj => by
    refine WL_step e_rock_bedded_tick_l19 ?_
    obtain rfl : j = rates.length := by omega
    have hyl : (yieldsOf b s rates).length = rates.length := by simp [yieldsOf, hr.len]
    have h3 : (yieldsOf b s rates).take rates.length = yieldsOf b s rates := List.take_of_length_le (by omega)
    simp [-List.length_flatMap, -List.map_take, eF, h3, cl_rw, cl_bore, cl_int]
  | k + 1, j, v, hj => by
    have h1 := hr.len
    rw [hw] at h1
    simp at h1
    subst h1
    simp at hj
theorem L_feed {b : Bed} {m : Mdl} {s2 : List Rock.Blk} {A FL X Y Z W V : Abs.Blk} {d12 : D} (h : Fv b m) (hb : bnd 600000000000000 s2) (hl2 : s2.length = b.n) (hd : d12.strip = d12 ∧ d12.calm = d12) : ∀ (k i : Nat), i + k = b.n →
    WL T [3, 9, 12, 93, 94] false f_rock_bedded_tick_l25 [(3, .cref [.int .i64 b.f.x, .int .i64 b.f.y, .int .i64 b.f.z, .int .i64 b.f.k, .lst b.tab.length (b.tab.flatMap Rw.enc), .int .i64 b.stiff, .int .i64 b.lift, .int .i64 b.deep, .nils, .str m.name, .lst m.vals.length (m.vals.flatMap intE)]), (9, .sl σ.length 1 1 0 b.n 3), (12, d12), (93, .int .i64 b.n), (94, .int .i64 i)]
      ([A, .cells 1 ((feedTo b m s2 i).flatMap Blk.enc), FL, X, Y, Z, W, V] :: σ)
      (fun x e σ' => x = .exit 4 ∧ get e 3 = .cref [.int .i64 b.f.x, .int .i64 b.f.y, .int .i64 b.f.z, .int .i64 b.f.k, .lst b.tab.length (b.tab.flatMap Rw.enc), .int .i64 b.stiff, .int .i64 b.lift, .int .i64 b.deep, .nils, .str m.name, .lst m.vals.length (m.vals.flatMap intE)] ∧ get e 9 = .sl σ.length 1 1 0 b.n 3 ∧ get e 12 = d12 ∧ σ' = [A, .cells 1 ((feedTo b m s2 b.n).flatMap Blk.enc), FL, X, Y, Z, W, V] :: σ)
  | 0, i, hi => by
    refine WL_step e_rock_bedded_tick_l25 ?_
    obtain rfl : i = b.n := by omega
    simp [-List.length_flatMap, -List.map_take, eF, hd, cl_rw, cl_bore, cl_int]
  | k + 1, i, hi => by
    refine WL_step e_rock_bedded_tick_l25 ?_
    have h1 : i < b.n := by omega
    have hn := h.bv.n
    have h4 := wnext h1 (by omega)
    have hf := fun σ => C_fed (σ := σ) h h1
    have ih := L_feed (A := A) (FL := FL) (X := X) (Y := Y) (Z := Z) (W := W) (V := V) h hb hl2 hd k (i + 1) (by omega)
    have ib := feedTo_ok h hb i (by omega)
    obtain ⟨x1, y1⟩ := bnd_at ib (i := i) (by rw [feedTo_len, hl2]; omega)
    have hM : lim T (.call false i_rock_Block_move [.ref σ.length 1 1 (i * 3), .agg [.int .i64 (fed b m i).m, .int .i64 (fed b m i).h, .int .i64 (fed b m i).k], .int .i64 1] ([A, .cells 1 ((feedTo b m s2 i).flatMap Blk.enc), FL, X, Y, Z, W, V] :: σ)) =
        some (.val (.tup []) ([A, .cells 1 ((feedTo b m s2 (i + 1)).flatMap Blk.enc), FL, X, Y, Z, W, V] :: σ)) := by
      rw [feedTo_succ]
      exact C_move (F := [A, .cells 1 ((feedTo b m s2 i).flatMap Blk.enc), FL, X, Y, Z, W, V]) (j := 1) rfl x1 (sm_mono y1 (by omega)) (sm_mono (fed_sm h h1) (by omega)) (.inl rfl)
    simp only [Blk.enc] at hf
    simp [-List.length_flatMap, -List.map_take, eF, h1, h4, hf, hM, hd, cl_rw, cl_bore, cl_int]
    refine WL.to ih (by simp [hd, cl_rw, cl_bore, cl_int]) rfl fun x e σ hh => hh
theorem C_rest {b : Bed} {m : Mdl} {s s1 : List Rock.Blk} {rates : List Int} {A FL X Y Z W : Abs.Blk} (hw : b.wells = []) (h : Fv b m) (hs : Sv b s) (hr : Rv b rates) (hb : bnd 500000000000000 s1) (hl1 : s1.length = s.length) :
    WC (lim T) f_rock_bedded_tick_l29 ((25, .bool false) :: (24, .undef) :: envT b m s rates σ.length) ([A, .cells 1 (s1.flatMap Blk.enc), FL, X, Y, Z, W] :: σ) fun x e σ' =>
      x = .ret ∧ σ' = [A, .cells 1 ((feedTo b m (wellsTo b s s1 rates rates.length) b.n).flatMap Blk.enc), FL, X, Y, Z, W, .cells rates.length ((yieldsOf b s rates).flatMap Blk.enc)] :: σ ∧
      (if stateOk b (feedTo b m (wellsTo b s s1 rates rates.length) b.n) = true then get e 6 = .sl σ.length 1 1 0 b.n 3 ∧ get e 7 = .sl σ.length 7 rates.length 0 rates.length 3 ∧ get e 8 = .int .i64 0
        else get e 6 = .nils ∧ get e 7 = .nils ∧ get e 8 = .int .i64 9) := by
  have hl := hs.len
  have hn := h.bv.n
  have hwl := h.bv.wells
  have hrl := hr.len
  obtain ⟨wb, wl⟩ := wellsTo_ok h.bv hs hr hb rates.length (Nat.le_refl _)
  have fl := feedTo_len (b := b) (m := m) (s2 := wellsTo b s s1 rates rates.length) b.n
  rw [WC_eq e_rock_bedded_tick_l29]
  simp [-List.length_flatMap, -List.map_take, eF, envT, cl_rw, cl_bore, cl_int]
  refine WL.to (L_wells (σ := σ) (A := A) (FL := FL) (X := X) (Y := Y) (Z := Z) (W := W) h hs hw hr hb hl1 rates.length 0 0 (by omega)) (by simp [cl_rw, cl_bore, cl_int]) (by simp [wellsTo]) ?_
  rintro x e σ' ⟨rfl, g3, g9, g12, rfl⟩
  rw [hl] at g9
  simp [-List.length_flatMap, -List.map_take, eF, g3, g9, g12, cl_rw, cl_bore, cl_int]
  refine WL.to (L_feed (σ := σ) (A := A) (FL := FL) (X := X) (Y := Y) (Z := Z) (W := W) (V := .cells (0 + rates.length) ((yieldsOf b s rates).flatMap Blk.enc)) (d12 := .sl σ.length 7 (0 + rates.length) 0 rates.length 3) h (fun x hx => sm_mono (wb x hx) (by omega)) (by rw [wl, hl1, hl]) ⟨rfl, rfl⟩ b.n 0 (by omega)) (by simp [cl_rw, cl_bore, cl_int]) (by simp [feedTo]) ?_
  rintro x e σ' ⟨rfl, g3, g9, g12, rfl⟩
  have hS := C_stateSl (m := m) (b := b) (s := feedTo b m (wellsTo b s s1 rates rates.length) b.n) h.bv (lv := σ.length) (bi := 1) (v := 1) (F := [A, .cells 1 ((feedTo b m (wellsTo b s s1 rates rates.length) b.n).flatMap Blk.enc), FL, X, Y, Z, W, .cells (0 + rates.length) ((yieldsOf b s rates).flatMap Blk.enc)]) (σ := [A, .cells 1 ((feedTo b m (wellsTo b s s1 rates rates.length) b.n).flatMap Blk.enc), FL, X, Y, Z, W, .cells (0 + rates.length) ((yieldsOf b s rates).flatMap Blk.enc)] :: σ) rfl (by simp [seg?]) (by rw [fl, wl, hl1, hl])
  rw [show (feedTo b m (wellsTo b s s1 rates rates.length) b.n).length = b.n by rw [fl, wl, hl1, hl]] at hS
  cases hc : stateOk b (feedTo b m (wellsTo b s s1 rates rates.length) b.n)
  · rw [hc] at hS
    simp at hS
    simp [-List.length_flatMap, -List.map_take, eF, g3, g9, g12, hS, cl_rw, cl_bore, cl_int]
  · rw [hc] at hS
    simp at hS
    simp [-List.length_flatMap, -List.map_take, eF, g3, g9, g12, hS, cl_rw, cl_bore, cl_int]
theorem C_tick {b : Bed} {m : Mdl} {s : List Rock.Blk} {rates : List Int} (hw : b.wells = []) (h : Fv b m) (hs : Sv b s) (hr : Rv b rates) (hσ : σ ≠ []) :
    lim T (.call false i_rock_bedded_tick [.agg [.int .i64 b.f.x, .int .i64 b.f.y, .int .i64 b.f.z, .int .i64 b.f.k, .lst b.tab.length (b.tab.flatMap Rw.enc), .int .i64 b.stiff, .int .i64 b.lift, .int .i64 b.deep, .nils, .str m.name, .lst m.vals.length (m.vals.flatMap intE)], .lst s.length (s.flatMap Blk.enc), .lst rates.length (rates.flatMap intE)] σ) = some (.val (tickD b m s rates) σ) := by
  refine call_of T_rock_bedded_tick e_rock_bedded_tick rfl ?_
  have hl := hs.len
  have hn := h.bv.n
  have hne : s ≠ [] := by intro h0; rw [h0] at hl; simp at hl; omega
  have hC := C_clone (σ := σ) (s := s) (bs := []) (by omega) hne
  obtain ⟨X, Y, Z, hF⟩ := C_flows (σ := σ) (A := .cells 0 []) (B := .cells 1 (s.flatMap Blk.enc)) h hs
  obtain ⟨fb, fl⟩ := flows_bnd h hs
  obtain ⟨x, e', σ', hrun, rfl, rfl, hq⟩ := C_rest (σ := σ) (A := .cells 0 []) (FL := .cells 0 (flE (flows b m s))) (X := X) (Y := Y) (Z := Z) (W := .dead) hw h hs hr fb fl
  obtain ⟨f1, f2⟩ := flows_ok (m := m) h.bv hs
  have hM := L_move (σ := σ) (rates := rates) (m := m) (A := .cells 0 []) (X := X) (Y := Y) (Z := Z) (es := flows b m s) hs f1 f2 (r := .ctl .ret e' ([.cells 0 [], .cells 1 ((feedTo b m (wellsTo b s ((flows b m s).foldl flowMove s) rates rates.length) b.n).flatMap Blk.enc), .cells 0 (flE (flows b m s)), X, Y, Z, .dead, .cells rates.length ((yieldsOf b s rates).flatMap Blk.enc)] :: σ)) ⟨_, _, _, hrun, rfl⟩ _ [] List.nodup_nil (by simp) rfl
  simp only [List.nil_append, List.length_nil, Nat.zero_add] at hC
  have hG : mpD ([.cells 0 [], .cells 1 (s.flatMap Blk.enc), .cells 0 (flE (flows b m s)), X, Y, Z] :: σ) .rng [.yld σ.length 2] = some (.yld σ.length 6, [.cells 0 [], .cells 1 (s.flatMap Blk.enc), .cells 0 (flE (flows b m s)), X, Y, Z, itB σ.length (flows b m s).length []] :: σ) := by
    simp [mpD, mapD, itB, jsD, flE]
  simp [-List.length_flatMap, -List.map_take, eF, hC, hF, hG, cl_rw, cl_bore, cl_int, cl_blk]
  refine ⟨_, _, _, by simpa [envT, stT] using hM, ?_⟩
  rw [next_eq hr hl] at hq ⊢
  have hnl : (nextSt b m s rates).length = b.n := by
    rw [← next_eq hr hl, feedTo_len, (wellsTo_ok h.bv hs hr fb rates.length (Nat.le_refl _)).2, fl, hl]
  have hyl : (yieldsOf b s rates).length = rates.length := by simp [yieldsOf, hr.len]
  unfold tickD tick
  cases hc : stateOk b (nextSt b m s rates)
  · rw [hc] at hq
    simp at hq
    obtain ⟨g6, g7, g8⟩ := hq
    simp [g6, g7, g8]
  · rw [hc] at hq
    simp only [if_true] at hq
    obtain ⟨g6, g7, g8⟩ := hq
    simp only [if_true]
    simp [g6, g7, g8]
    rw [frz_tup (by simp) (by omega)]
    simp only [frzL_cons, frzL_nil]
    rw [← hnl, k_out (f := Blk.enc) (l := nextSt b m s rates) (by decide) (fun _ => rfl) (fun x => by simp) hσ (by simp)]
    simp only [List.set_cons_succ, List.set_cons_zero]
    rw [← hyl, k_out (f := Blk.enc) (l := yieldsOf b s rates) (by decide) (fun _ => rfl) (fun x => by simp) hσ (by simp)]
    rw [frz_clean (by simp) (by omega)]
    exact ⟨_, rfl⟩
theorem L_run {b : Bed} {m : Mdl} {plan : List (List Int)} (hw : b.wells = []) (h : Fv b m) (hp : plan.length ≤ 200) (hr : ∀ r ∈ plan, Rv b r) : ∀ (k i v u : Nat) (ss ys : List (List Rock.Blk)) (s : List Rock.Blk), i + k = plan.length → ss.length = i + 1 → ys.length = i → ss[i]? = some s → Sv b s →
    WL T [2, 4, 14, 15, 16] false f_rock_bedded_run_l11 [(2, .cref [.int .i64 b.f.x, .int .i64 b.f.y, .int .i64 b.f.z, .int .i64 b.f.k, .lst b.tab.length (b.tab.flatMap Rw.enc), .int .i64 b.stiff, .int .i64 b.lift, .int .i64 b.deep, .nils, .str m.name, .lst m.vals.length (m.vals.flatMap intE)]), (4, .own 0 [.sl σ.length 2 v 0 (i + 1) 1, .sl σ.length 1 u 0 i 1]), (14, .lst plan.length (plan.flatMap inL)), (15, .int .i64 plan.length), (16, .int .i64 i)]
      ([.cells 0 [], .cells u (ys.flatMap stL), .cells v (ss.flatMap stL)] :: σ) (runQ b m σ (runFrom b m ss ys s (plan.drop i)))
  | 0, i, v, u, ss, ys, s, hi, h1, h2, h3, hs => by
    refine WL_step e_rock_bedded_run_l11 ?_
    obtain rfl : i = plan.length := by omega
    have h5 : plan.drop plan.length = [] := List.drop_eq_nil_of_le (by omega)
    simp [-List.length_flatMap, -List.map_take, eF, h5, runFrom, runQ]
    exact ⟨v, u, by simp [h1, h2]⟩
  | k + 1, i, v, u, ss, ys, s, hi, h1, h2, h3, hs => by
    refine WL_step e_rock_bedded_run_l11 ?_
    have hlt : i < plan.length := by omega
    have hii : (i : Int) < i + 1 := by omega
    obtain ⟨r, hx⟩ : ∃ r, plan[i]? = some r := ⟨_, List.getElem?_eq_getElem hlt⟩
    have h4 := wnext hlt (by omega)
    have h5 := drop_at hx
    have a1 := flat_at (f := inL) (w := 1) (fun _ => rfl) hx
    simp only [inL, Nat.mul_one] at a1
    have a2 := k_drop (f := stL) (w := 1) (fun _ => rfl) h3
    simp only [stL, Nat.mul_one, List.singleton_append] at a2
    have hT := fun σ hσ => C_tick (σ := σ) hw h hs (hr r (List.mem_of_getElem? hx)) hσ
    rw [h5, runFrom]
    unfold tickD at hT
    cases ht : tick b m s r with
    | none =>
      rw [ht] at hT
      simp only at hT
      simp [-List.length_flatMap, -List.map_take, eF, hlt, hii, h4, a1, a2, hT, inL, runQ]
    | some p =>
      obtain ⟨s', y⟩ := p
      rw [ht] at hT
      simp only at hT
      have ih := L_run hw h hp hr k (i + 1) (v + 1) (u + 1) (ss ++ [s']) (ys ++ [y]) s' (by omega) (by simp [h1]) (by simp [h2]) (by simp [← h1]) (Sv.next h.bv ht)
      have l1 := stL_len ss
      have l2 := stL_len ys
      rw [h1] at l1
      rw [h2] at l2
      have f1 : (ss.flatMap stL).take (i + 1) = ss.flatMap stL := List.take_of_length_le (by omega)
      have f2 : (ys.flatMap stL).take i = ys.flatMap stL := List.take_of_length_le (by omega)
      have h7 := room24 (n := i + 1) (by omega)
      have h8 := room24 (n := i + 1 + 1) (by omega)
      simp [-List.length_flatMap, -List.map_take, eF, hlt, hii, h4, a1, a2, hT, inL, f1, f2, l1, l2, h7, h8]
      exact WL.to ih (by simp) (by simp [stL]) fun x e σ hh => hh
theorem C_runOk {b : Bed} {m : Mdl} {plan : List (List Int)} (hw : b.wells = []) (h : Fv b m) (hp : plan.length ≤ 200) (hr : ∀ r ∈ plan, Rv b r) (hσ : σ ≠ []) {ss ys : List (List Rock.Blk)} (hrun : Rock.run b m plan = some (ss, ys)) :
    lim T (.call false i_rock_bedded_run [.agg [.int .i64 b.f.x, .int .i64 b.f.y, .int .i64 b.f.z, .int .i64 b.f.k, .lst b.tab.length (b.tab.flatMap Rw.enc), .int .i64 b.stiff, .int .i64 b.lift, .int .i64 b.deep, .nils, .str m.name, .lst m.vals.length (m.vals.flatMap intE)], .lst plan.length (plan.flatMap inL)] σ) = some (.val (.agg [.lst ss.length (ss.flatMap stL), .lst ys.length (ys.flatMap stL)]) σ) := by
  refine call_of T_rock_bedded_run e_rock_bedded_run rfl ?_
  have hf := fun σ hσ => C_firstSt (σ := σ) h hσ
  simp only [stE] at hf
  simp [-List.length_flatMap, -List.map_take, eF, hf, cl_rw, cl_bore, cl_int]
  refine WL.to (L_run (σ := σ) hw h hp hr plan.length 0 0 0 [firstSt b m] [] (firstSt b m) (by omega) rfl rfl rfl (Sv.first h)) (by simp) (by simp [stL]) ?_
  rw [List.drop_zero, show runFrom b m [firstSt b m] [] (firstSt b m) plan = some (ss, ys) from hrun]
  rintro x e σ' ⟨v, u, rfl, g4, rfl⟩
  simp [-List.length_flatMap, -List.map_take, eF, g4]
  have c1 : ∀ x : List Rock.Blk, D.cleanL (stL x) = true := fun x => by simp [stL, D.clean, cl_blk]
  rw [frz_agg (by simp) (by omega)]
  simp only [frzL_cons, frzL_nil]
  rw [k_out (f := stL) (w := 1) (l := ss) (by decide) (fun _ => rfl) c1 hσ (by simp)]
  simp only [List.set_cons_succ, List.set_cons_zero]
  rw [k_out (f := stL) (w := 1) (l := ys) (by decide) (fun _ => rfl) c1 hσ (by simp)]
  exact ⟨_, rfl⟩
theorem C_runNo {b : Bed} {m : Mdl} {plan : List (List Int)} (hw : b.wells = []) (h : Fv b m) (hp : plan.length ≤ 200) (hr : ∀ r ∈ plan, Rv b r) (hrun : Rock.run b m plan = none) :
    lim T (.call false i_rock_bedded_run [.agg [.int .i64 b.f.x, .int .i64 b.f.y, .int .i64 b.f.z, .int .i64 b.f.k, .lst b.tab.length (b.tab.flatMap Rw.enc), .int .i64 b.stiff, .int .i64 b.lift, .int .i64 b.deep, .nils, .str m.name, .lst m.vals.length (m.vals.flatMap intE)], .lst plan.length (plan.flatMap inL)] σ) = some (.thr (.ifc 107 (.agg [])) σ) := by
  refine throws_of T_rock_bedded_run e_rock_bedded_run rfl ?_
  have hf := fun σ hσ => C_firstSt (σ := σ) h hσ
  simp only [stE] at hf
  simp [-List.length_flatMap, -List.map_take, eF, hf, cl_rw, cl_bore, cl_int]
  refine WL.to (L_run (σ := σ) hw h hp hr plan.length 0 0 0 [firstSt b m] [] (firstSt b m) (by omega) rfl rfl rfl (Sv.first h)) (by simp) (by simp [stL]) ?_
  rw [List.drop_zero, show runFrom b m [firstSt b m] [] (firstSt b m) plan = none from hrun]
  rintro x e σ' ⟨rfl, seg, rfl⟩
  simp [D.clean]
theorem C_Play {b : Bed} {m : Mdl} {plan : List (List Int)} (hw : b.wells = []) (h1 : b.tab.length ≤ 1000000000) (h2 : b.wells.length ≤ 1000000000) (hn : m.name.length ≤ 1000000000) (hl : m.vals.length ≤ 1000000000) (hp : plan.length ≤ 1000000000) (hs : ∀ l ∈ plan, l.length ≤ 1000000000) (hσ : σ ≠ []) :
    lim T (.call false i_rock_Play [.agg [.int .i64 b.f.x, .int .i64 b.f.y, .int .i64 b.f.z, .int .i64 b.f.k, .lst b.tab.length (b.tab.flatMap Rw.enc), .int .i64 b.stiff, .int .i64 b.lift, .int .i64 b.deep, .nils], .agg [.str m.name, .lst m.vals.length (m.vals.flatMap intE)], .lst plan.length (plan.flatMap inL)] σ) = some (.val (.tup [playD b m plan, .int .i64 (playE b m plan)]) σ) := by
  have hP := fun σ => C_plan (σ := σ) (b := b) hw hp hs
  cases hb : Bd b m
  · have hE : playE b m plan = 1 := by simp [playE, hb]
    have hD : playD b m plan = .agg [.nils, .nils] := by simp [playD, hE]
    rw [hD, hE]
    refine call_of T_rock_Play e_rock_Play rfl ?_
    obtain ⟨d, hB, hd1, hd2⟩ := C_bedNo hw h1 h2 hn hl hb (σ := [.cells 0 [.int .i64 0]] :: σ)
    simp [-List.length_flatMap, -List.map_take, eF, hB, hd1, cl_rw, cl_bore, cl_int]
  · have hB := fun σ => C_bed (σ := σ) hw h1 h2 hn hl hb
    by_cases hq : planE b plan = 0
    · obtain ⟨p1, p2⟩ := planE_zero hq
      simp only [Bd, Bool.and_eq_true] at hb
      have hf : Fv b m := Fv.of (by simp [Bd, hb])
      have hb' : Bd b m = true := by simp [Bd, hb]
      refine call_dfr T_rock_Play e_rock_Play rfl rfl ?_
      cases hrun : Rock.run b m plan with
      | none =>
        have hE : playE b m plan = 9 := by simp [playE, hb', hq, hrun]
        have hD : playD b m plan = .agg [.nils, .nils] := by simp [playD, hE]
        have hR := fun σ => C_runNo (σ := σ) hw hf p1 p2 hrun
        have hX : dcallV T (.fn i_rock_caught [] []) [.ref σ.length 0 0 0] (some (.ifc 107 (.agg []))) ([.cells 0 [.int .i64 0]] :: σ) = some ([.cells 0 [.int .i64 9]] :: σ) := dcallV_fn (X_caught rfl)
        rw [hD, hE]
        simp [-List.length_flatMap, -List.map_take, eF, toD, endD, hB, hP, hq, hR, cl_rw, cl_bore, cl_int]
        rw [WC_eq e_rock_Play_b8]
        simp [-List.length_flatMap, -List.map_take, eF, toD, endD, hX, hR, cl_rw, cl_bore, cl_int]
      | some p =>
        obtain ⟨ss, ys⟩ := p
        have hE : playE b m plan = 0 := by simp [playE, hb', hq, hrun]
        have hD : playD b m plan = .agg [.lst ss.length (ss.flatMap stL), .lst ys.length (ys.flatMap stL)] := by simp [playD, hE, hrun]
        have hX : dcallV T (.fn i_rock_caught [] []) [.ref σ.length 0 0 0] none ([.cells 0 [.int .i64 0]] :: σ) = some ([.cells 0 [.int .i64 0]] :: σ) := dcallV_fn X_caughtNo
        have hR := fun σ hσ => C_runOk (σ := σ) hw hf p1 p2 hσ hrun
        rw [hD, hE]
        simp [-List.length_flatMap, -List.map_take, eF, toD, endD, hB, hP, hq, hR, cl_rw, cl_bore, cl_int]
        rw [WC_eq e_rock_Play_b8]
        simp [-List.length_flatMap, -List.map_take, eF, toD, endD, hX, hR, cl_rw, cl_bore, cl_int]
        rw [frz_clean (by simp [D.clean, cl_st]) (by omega)]
        exact ⟨_, rfl⟩
    · have hE : playE b m plan = planE b plan := by simp [playE, hb, hq]
      have hD : playD b m plan = .agg [.nils, .nils] := by simp [playD, hE, hq]
      rw [hD, hE]
      refine call_of T_rock_Play e_rock_Play rfl ?_
      simp [-List.length_flatMap, -List.map_take, eF, hB, hP, hq, cl_rw, cl_bore, cl_int]
theorem C_Pressures {b : Bed} {m : Mdl} {s : List Rock.Blk} (hw : b.wells = []) (h1 : b.tab.length ≤ 1000000000) (h2 : b.wells.length ≤ 1000000000) (hn : m.name.length ≤ 1000000000) (hl : m.vals.length ≤ 1000000000) (hs : s.length ≤ 1000000000) (hσ : σ ≠ []) :
    lim T (.call false i_rock_Pressures [.agg [.int .i64 b.f.x, .int .i64 b.f.y, .int .i64 b.f.z, .int .i64 b.f.k, .lst b.tab.length (b.tab.flatMap Rw.enc), .int .i64 b.stiff, .int .i64 b.lift, .int .i64 b.deep, .nils], .agg [.str m.name, .lst m.vals.length (m.vals.flatMap intE)], .lst s.length (s.flatMap Blk.enc)] σ) = some (.val (pressD b m s) σ) := by
  refine call_of T_rock_Pressures e_rock_Pressures rfl ?_
  cases hb : Bd b m
  · obtain ⟨d, hB, hd1, hd2⟩ := C_bedNo hw h1 h2 hn hl hb (σ := [] :: σ)
    simp [-List.length_flatMap, -List.map_take, eF, hB, hd1, hd2, pressD, pressOk, hb, cl_rw, cl_bore, cl_int]
  · have hB := fun σ => C_bed (σ := σ) hw h1 h2 hn hl hb
    have hf := Fv.of hb
    have hS := fun σ => C_state (σ := σ) (m := m) (s := s) hf.bv hs
    cases hc : stateOk b s
    · simp [-List.length_flatMap, -List.map_take, eF, hB, hS, hc, pressD, pressOk, hb, cl_rw, cl_bore, cl_int]
    · have hP := fun σ hσ => C_pressures (σ := σ) hf ((Sv.of hf.bv).1 hc) hσ
      simp [-List.length_flatMap, -List.map_take, eF, hB, hS, hc, hP, pressD, pressOk, hb, cl_rw, cl_bore, cl_int]
end Go.Proofs.Ytehandllpmlcoaa.Nil
