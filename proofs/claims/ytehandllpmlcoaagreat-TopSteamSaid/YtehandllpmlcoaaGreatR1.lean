/-
  What the functions on fields, tables and models answer.
-/
import Derived.Test.YtehandllpmlcoaaGreatTab
import Derived.Test.YtehandllpmlcoaaGreatRockSpec
set_option linter.unusedVariables false
set_option linter.unusedSimpArgs false
namespace Go.Proofs.YtehandllpmlcoaaGreat
open Go Go.Abs Go.Rock
variable {σ : Stack}

theorem mul_b {a b A B : Int} (h1 : 1 ≤ a) (h2 : a ≤ A) (h3 : 1 ≤ b) (h4 : b ≤ B) : 1 ≤ a * b ∧ a * b ≤ A * B :=
  ⟨by have := Int.mul_pos (a := a) (b := b) (by omega) (by omega); omega, Int.mul_le_mul h2 h4 (by omega) (by omega)⟩
theorem mul_n {a b A B : Int} (h1 : 0 ≤ a) (h2 : a ≤ A) (h3 : 0 ≤ b) (h4 : b ≤ B) : 0 ≤ a * b ∧ a * b ≤ A * B :=
  ⟨Int.mul_nonneg h1 h3, Int.mul_le_mul h2 h4 h3 (by omega)⟩
theorem Fld.sz {f : Fld} (hx : 1 ≤ f.x ∧ f.x ≤ 8) (hy : 1 ≤ f.y ∧ f.y ≤ 8) (hz : 1 ≤ f.z ∧ f.z ≤ 8) : (1 ≤ f.x * f.y ∧ f.x * f.y ≤ 64) ∧ (1 ≤ f.x * f.y * f.z ∧ f.x * f.y * f.z ≤ 512) := by
  have h1 := mul_b hx.1 hx.2 hy.1 hy.2
  have h2 := mul_b h1.1 h1.2 hz.1 hz.2
  exact ⟨by omega, by omega⟩

theorem C_rwithin {a b c : Int} : lim T (.call false i_rock_within [.int .i64 a, .int .i64 b, .int .i64 c] σ) = some (.val (.bool (inn a b c)) σ) := by
  refine call_of T_rock_within e_rock_within rfl ?_
  by_cases h : b ≤ a <;> simp [-List.length_flatMap, -List.map_take, eF, h, inn]
theorem C_fwithin {a b c : Int} : lim T (.call false i_field_within [.int .i64 a, .int .i64 b, .int .i64 c] σ) = some (.val (.bool (inn a b c)) σ) := by
  refine call_of T_field_within e_field_within rfl ?_
  by_cases h : b ≤ a <;> simp [-List.length_flatMap, -List.map_take, eF, h, inn]
theorem C_swithin {a b c : Int} : lim T (.call false i_steam_within [.int .i64 a, .int .i64 b, .int .i64 c] σ) = some (.val (.bool (inn a b c)) σ) := by
  refine call_of T_steam_within e_steam_within rfl ?_
  by_cases h : b ≤ a <;> simp [-List.length_flatMap, -List.map_take, eF, h, inn]

theorem C_blocks {f : Fld} (hx : 1 ≤ f.x ∧ f.x ≤ 8) (hy : 1 ≤ f.y ∧ f.y ≤ 8) (hz : 1 ≤ f.z ∧ f.z ≤ 8) : lim T (.call false i_field_Field_blocks [.agg [.int .i64 f.x, .int .i64 f.y, .int .i64 f.z, .int .i64 f.k]] σ) = some (.val (.int .i64 f.size) σ) := by
  refine call_of T_field_Field_blocks e_field_Field_blocks rfl ?_
  obtain ⟨h1, h2⟩ := Fld.sz hx hy hz
  have w1 := w64 (n := f.x * f.y) (by omega)
  have w2 := w64 (n := f.x * f.y * f.z) (by omega)
  simp [-List.length_flatMap, -List.map_take, eF, w1, w2, Fld.size]
theorem C_fvalid {f : Fld} : lim T (.call false i_field_Field_valid [.agg [.int .i64 f.x, .int .i64 f.y, .int .i64 f.z, .int .i64 f.k]] σ) = some (.val (.bool f.valid) σ) := by
  refine call_of T_field_Field_valid e_field_Field_valid rfl ?_
  cases hc1 : inn f.x 1 8
  · simp [-List.length_flatMap, -List.map_take, eF, C_fwithin, Fld.valid, hc1]
  cases hc2 : inn f.y 1 8
  · simp [-List.length_flatMap, -List.map_take, eF, C_fwithin, Fld.valid, hc1, hc2]
  cases hc3 : inn f.z 1 8
  · simp [-List.length_flatMap, -List.map_take, eF, C_fwithin, Fld.valid, hc1, hc2, hc3]
  have hb := fun σ => C_blocks (σ := σ) (f := f) (inn_iff.1 hc1) (inn_iff.1 hc2) (inn_iff.1 hc3)
  by_cases hc4 : f.size ≤ 64
  · simp [-List.length_flatMap, -List.map_take, eF, C_fwithin, Fld.valid, hc1, hc2, hc3, hc4, hb]
  · simp [-List.length_flatMap, -List.map_take, eF, C_fwithin, Fld.valid, hc1, hc2, hc3, hc4, hb]
theorem C_shape {f : Fld} : lim T (.call false i_field_Field_shape [.agg [.int .i64 f.x, .int .i64 f.y, .int .i64 f.z, .int .i64 f.k]] σ) = some (.val (.int .i64 f.shape) σ) := by
  refine call_of T_field_Field_shape e_field_Field_shape rfl ?_
  have hb := fun σ => C_fvalid (σ := σ) (f := f)
  cases hc : f.valid <;> rw [hc] at hb <;> simp [-List.length_flatMap, -List.map_take, eF, hb, Fld.shape, hc]
theorem C_CheckField {f : Fld} : lim T (.call false i_field_CheckField [.agg [.int .i64 f.x, .int .i64 f.y, .int .i64 f.z, .int .i64 f.k]] σ) = some (.val (.int .i64 f.shape) σ) := by
  refine call_of T_field_CheckField e_field_CheckField rfl ?_
  have hb := fun σ => C_shape (σ := σ) (f := f)
  simp [-List.length_flatMap, -List.map_take, eF, hb]

/-! ### Names -/
theorem L_named {s : List UInt8} (hl : s.length ≤ 1000000000) : ∀ (m i : Nat), i + m = s.length →
    WL T [0, 6, 7] false f_field_named_l8 [(0, .str s), (6, .int .i64 s.length), (7, .int .i64 i)] σ
      (fun x e σ' => σ' = σ ∧ if namedFrom i (s.drop i) then x = .exit 0 ∧ get e 0 = .str s else x = .ret ∧ get e 2 = .bool false)
  | 0, i, hi => by
    refine WL_step e_field_named_l8 ?_
    have h1 : ¬ i < s.length := by omega
    have h2 : s.drop i = [] := List.drop_eq_nil_of_le (by omega)
    simp [-List.length_flatMap, -List.map_take, eF, h1, h2, namedFrom]
  | m + 1, i, hi => by
    refine WL_step e_field_named_l8 ?_
    have h1 : i < s.length := by omega
    obtain ⟨c, hc⟩ : ∃ c, s[i]? = some c := ⟨_, List.getElem?_eq_getElem h1⟩
    have h4 := wnext h1 (by omega)
    have h5 := drop_at hc
    have ih := L_named hl m (i + 1) (by omega)
    rw [h5, namedFrom]
    have hd : puD .sidx [.str s, .int .i64 (i : Int)] = some (.int .u8 c.toNat) := by simp [puD, hc]
    by_cases hc1 : 97 ≤ c.toNat
    · by_cases hc2 : c.toNat ≤ 122
      · have hlet : letter c = true := by simp [letter, hc1, hc2]
        simp [-List.length_flatMap, -List.map_take, eF, h1, h4, hd, hlet, show (97 : Int) ≤ (c.toNat : Int) by omega, show (c.toNat : Int) ≤ 122 by omega]
        exact WL.to ih (by simp) rfl fun x e σ' hh => by simpa [hlet] using hh
      · have hlet : letter c = false := by simp [letter, hc2]
        have hdig : digit c = false := by simp [digit]; omega
        by_cases hi0 : i = 0
        · subst hi0
          have hd0 : puD .sidx [.str s, .int .i64 0] = some (.int .u8 c.toNat) := by simpa using hd
          have h1' : 0 < s.length := h1
          simp [-List.length_flatMap, -List.map_take, eF, h1', h4, hd0, hlet, hdig, show (97 : Int) ≤ (c.toNat : Int) by omega, show ¬ (c.toNat : Int) ≤ 122 by omega]
        · simp [-List.length_flatMap, -List.map_take, eF, h1, h4, hd, hlet, hdig, hi0, show (97 : Int) ≤ (c.toNat : Int) by omega, show ¬ (c.toNat : Int) ≤ 122 by omega, show ¬ (c.toNat : Int) < 48 by omega, show (57 : Int) < (c.toNat : Int) by omega, show (57 : Nat) < c.toNat by omega, show ¬ c.toNat < 48 by omega]
    · have hlet : letter c = false := by simp [letter, hc1]
      by_cases hi0 : i = 0
      · subst hi0
        have hd0 : puD .sidx [.str s, .int .i64 0] = some (.int .u8 c.toNat) := by simpa using hd
        have h1' : 0 < s.length := h1
        simp [-List.length_flatMap, -List.map_take, eF, h1', h4, hd0, hlet, show ¬ (97 : Int) ≤ (c.toNat : Int) by omega]
      · by_cases hc3 : c.toNat < 48
        · have hdig : digit c = false := by simp [digit]; omega
          simp [-List.length_flatMap, -List.map_take, eF, h1, h4, hd, hlet, hdig, hi0, show ¬ (97 : Int) ≤ (c.toNat : Int) by omega, show (c.toNat : Int) < 48 by omega, hc3]
        · by_cases hc4 : 57 < c.toNat
          · have hdig : digit c = false := by simp [digit]; omega
            simp [-List.length_flatMap, -List.map_take, eF, h1, h4, hd, hlet, hdig, hi0, show ¬ (97 : Int) ≤ (c.toNat : Int) by omega, show ¬ (c.toNat : Int) < 48 by omega, show (57 : Int) < (c.toNat : Int) by omega, hc3, hc4]
          · have hdig : digit c = true := by simp [digit]; omega
            simp [-List.length_flatMap, -List.map_take, eF, h1, h4, hd, hlet, hdig, hi0, show ¬ (97 : Int) ≤ (c.toNat : Int) by omega, show ¬ (c.toNat : Int) < 48 by omega, show ¬ (57 : Int) < (c.toNat : Int) by omega, hc3, hc4]
            exact WL.to ih (by simp) rfl fun x e σ' hh => by simpa [hlet, hdig, hi0] using hh
theorem C_named {s : List UInt8} (hl : s.length ≤ 1000000000) : lim T (.call false i_field_named [.str s] σ) = some (.val (.bool (named s)) σ) := by
  refine call_of T_field_named e_field_named rfl ?_
  have hp : puD .slen [.str s] = some (.int .i64 s.length) := rfl
  simp [-List.length_flatMap, -List.map_take, eF, hp]
  refine WL.to (L_named (σ := [] :: σ) hl s.length 0 (by omega)) (by simp) rfl ?_
  rintro x e σ' ⟨rfl, h⟩
  simp only [List.drop_zero] at h
  unfold named
  cases hc : namedFrom 0 s
  · simp [hc] at h
    simp [h]
  · simp [hc] at h
    simp [-List.length_flatMap, -List.map_take, eF, h, hp, C_fwithin]

theorem C_inVal {a : Int} : lim T (.call false i_field_Field_model_1 [.int .i64 a] σ) = some (.val (.bool (inn a (-100000) 100000)) σ) := by
  refine call_of T_field_Field_model_1 e_field_Field_model_1 rfl ?_
  simp [-List.length_flatMap, -List.map_take, eF, C_fwithin]
theorem C_fallInt {l : List Int} {p : Int → Bool} {fv : D} (hl : l.length ≤ 1000000000) (ht : Tests T fv (fun n => .int .i64 n) p l) (hc : fv.cells = some [fv]) :
    lim T (.call false i_field_all_int [.lst l.length (l.flatMap intE), fv] σ) = some (.val (.bool (allB l p)) σ) :=
  all_of (eltInt .i64) (f := i_field_all_int) (g := i_field_all_int_1) (h := i_slices_ContainsFunc_int) (i := i_slices_IndexFunc_int) (l := l) (p := p) (fv := fv) rfl rfl rfl rfl (by omega) ht hc
theorem model_sz {f : Fld} (hf : f.valid = true) : (1 ≤ f.size ∧ f.size ≤ 64) ∧ 1 ≤ f.k * f.size ∧ f.k * f.size ≤ 384 := by
  obtain ⟨h1, h2, h3, h4, h5⟩ := Fld.valid_iff.1 hf
  obtain ⟨_, h6⟩ := Fld.sz h1 h2 h3
  have h7 := mul_b h5.1 h5.2 (b := f.size) (B := 64) (by unfold Fld.size; omega) h4
  exact ⟨⟨by unfold Fld.size; omega, h4⟩, by omega, by omega⟩
theorem C_model {f : Fld} {m : Mdl} (hf : f.valid = true) (hn : m.name.length ≤ 1000000000) (hl : m.vals.length ≤ 1000000000) : lim T (.call false i_field_Field_model [.agg [.int .i64 f.x, .int .i64 f.y, .int .i64 f.z, .int .i64 f.k], .agg [.str m.name, .lst m.vals.length (m.vals.flatMap intE)]] σ) = some (.val (.int .i64 (f.model m)) σ) := by
  refine call_of T_field_Field_model e_field_Field_model rfl ?_
  obtain ⟨h1, h2, h3, h4, h5⟩ := Fld.valid_iff.1 hf
  obtain ⟨h6, h7⟩ := model_sz hf
  have w1 := w64 (n := f.k * f.size) (by omega)
  have hb := fun σ => C_blocks (σ := σ) (f := f) h1 h2 h3
  have ha := fun σ => C_fallInt (σ := σ) (l := m.vals) (p := fun n => inn n (-100000) 100000) (fv := .fn i_field_Field_model_1 [] []) hl (Tests.fn fun x _ σ => by simpa using C_inVal) rfl
  cases hc1 : named m.name
  · simp [-List.length_flatMap, -List.map_take, eF, C_named hn, hc1, Fld.model]
  · by_cases hc2 : (m.vals.length : Int) = f.k * f.size
    · cases hc3 : allB m.vals (fun n => inn n (-100000) 100000) <;>
        simp [-List.length_flatMap, -List.map_take, eF, C_named hn, hc1, hc2, hc3, Fld.model, hb, ha, w1]
    · simp [-List.length_flatMap, -List.map_take, eF, C_named hn, hc1, hc2, Fld.model, hb, w1]
end Go.Proofs.YtehandllpmlcoaaGreat
