/-
  What the reference's functions on fields, names and models answer.
-/
import Derived.Test.YtehandllpmlcoaaGreatQ6
set_option linter.unusedVariables false
set_option linter.unusedSimpArgs false
namespace Go.Proofs.YtehandllpmlcoaaGreat
open Go Go.Abs Go.Rock
variable {σ : Stack}

theorem allB_cons {α : Type} {p : α → Bool} {x : α} {l : List α} : allB (x :: l) p = (p x && allB l p) := by simp [allB]
theorem C_In1 {a b c : Int} : lim T (.call false i_ref01_In [.int .i64 a, .int .i64 b, .int .i64 c] σ) = some (.val (.bool (inn a b c)) σ) := by
  refine call_of T_ref01_In e_ref01_In rfl ?_
  by_cases h : b ≤ a <;> simp [-List.length_flatMap, -List.map_take, eF, h, inn]
theorem C_In2 {a b c : Int} : lim T (.call false i_ref02_In [.int .i64 a, .int .i64 b, .int .i64 c] σ) = some (.val (.bool (inn a b c)) σ) := by
  refine call_of T_ref02_In e_ref02_In rfl ?_
  by_cases h : b ≤ a <;> simp [-List.length_flatMap, -List.map_take, eF, h, inn]
theorem C_RSize {f : Fld} (hx : 1 ≤ f.x ∧ f.x ≤ 8) (hy : 1 ≤ f.y ∧ f.y ≤ 8) (hz : 1 ≤ f.z ∧ f.z ≤ 8) : lim T (.call false i_ref02_Size [.agg [.int .i64 f.x, .int .i64 f.y, .int .i64 f.z, .int .i64 f.k]] σ) = some (.val (.int .i64 f.size) σ) := by
  refine call_of T_ref02_Size e_ref02_Size rfl ?_
  obtain ⟨h1, h2⟩ := Fld.sz hx hy hz
  have w1 := w64 (n := f.x * f.y) (by omega)
  have w2 := w64 (n := f.x * f.y * f.z) (by omega)
  simp [-List.length_flatMap, -List.map_take, eF, w1, w2, Fld.size]
theorem C_RSize' {f : Fld} (h : f.valid = true) : lim T (.call false i_ref02_Size [.agg [.int .i64 f.x, .int .i64 f.y, .int .i64 f.z, .int .i64 f.k]] σ) = some (.val (.int .i64 f.size) σ) := by
  obtain ⟨h1, h2, h3, h4, h5⟩ := Fld.valid_iff.1 h
  exact C_RSize h1 h2 h3
theorem C_FRight {f : Fld} : lim T (.call false i_ref02_Right [.agg [.int .i64 f.x, .int .i64 f.y, .int .i64 f.z, .int .i64 f.k]] σ) = some (.val (.bool f.valid) σ) := by
  refine call_of T_ref02_Right e_ref02_Right rfl ?_
  cases hc1 : inn f.x 1 8
  · simp [-List.length_flatMap, -List.map_take, eF, C_In2, Fld.valid, hc1]
  cases hc2 : inn f.y 1 8
  · simp [-List.length_flatMap, -List.map_take, eF, C_In2, Fld.valid, hc1, hc2]
  cases hc3 : inn f.z 1 8
  · simp [-List.length_flatMap, -List.map_take, eF, C_In2, Fld.valid, hc1, hc2, hc3]
  obtain ⟨h1, h2⟩ := Fld.sz (inn_iff.1 hc1) (inn_iff.1 hc2) (inn_iff.1 hc3)
  have w1 := w64 (n := f.x * f.y) (by omega)
  have w2 := w64 (n := f.x * f.y * f.z) (by omega)
  by_cases hc4 : f.x * f.y * f.z ≤ 64
  · simp [-List.length_flatMap, -List.map_take, eF, C_In2, Fld.valid, Fld.size, hc1, hc2, hc3, hc4, w1, w2]
  · simp [-List.length_flatMap, -List.map_take, eF, C_In2, Fld.valid, Fld.size, hc1, hc2, hc3, hc4, w1, w2]

/-! ### Names -/
theorem L_RName {s : List UInt8} (hl : s.length ≤ 9223372036854775807) : ∀ (m i : Nat), i + m = s.length →
    WL T [0, 3] false f_ref02_Name_l7 [(0, .str s), (3, .int .i64 i)] σ
      (fun x e σ' => σ' = σ ∧ if namedFrom i (s.drop i) then x = .exit 0 ∧ get e 0 = .str s else x = .ret ∧ get e 2 = .bool false)
  | 0, i, hi => by
    refine WL_step e_ref02_Name_l7 ?_
    have h1 : ¬ i < s.length := by omega
    have h2 : s.drop i = [] := List.drop_eq_nil_of_le (by omega)
    have hp : puD .slen [.str s] = some (.int .i64 s.length) := rfl
    simp [-List.length_flatMap, -List.map_take, eF, h1, h2, hp, namedFrom]
  | m + 1, i, hi => by
    refine WL_step e_ref02_Name_l7 ?_
    have h1 : i < s.length := by omega
    obtain ⟨c, hc⟩ : ∃ c, s[i]? = some c := ⟨_, List.getElem?_eq_getElem h1⟩
    have h4 := wnext h1 (by omega)
    have h5 := drop_at hc
    have ih := L_RName hl m (i + 1) (by omega)
    have hp : puD .slen [.str s] = some (.int .i64 s.length) := rfl
    rw [h5, namedFrom]
    have hd : puD .sidx [.str s, .int .i64 (i : Int)] = some (.int .u8 c.toNat) := by simp [puD, hc]
    by_cases hc1 : 97 ≤ c.toNat
    · by_cases hc2 : c.toNat ≤ 122
      · have hlet : letter c = true := by simp [letter, hc1, hc2]
        simp [-List.length_flatMap, -List.map_take, eF, h1, h4, hd, hp, hlet, show (97 : Int) ≤ (c.toNat : Int) by omega, show (c.toNat : Int) ≤ 122 by omega]
        exact WL.to ih (by simp) rfl fun x e σ' hh => by simpa [hlet] using hh
      · have hlet : letter c = false := by simp [letter, hc2]
        have hdig : digit c = false := by simp [digit]; omega
        by_cases hi0 : i = 0
        · subst hi0
          have hd0 : puD .sidx [.str s, .int .i64 0] = some (.int .u8 c.toNat) := by simpa using hd
          have h1' : 0 < s.length := h1
          simp [-List.length_flatMap, -List.map_take, eF, h1', h4, hd0, hp, hlet, hdig, show (97 : Int) ≤ (c.toNat : Int) by omega, show ¬ (c.toNat : Int) ≤ 122 by omega]
        · simp [-List.length_flatMap, -List.map_take, eF, h1, h4, hd, hp, hlet, hdig, hi0, show (97 : Int) ≤ (c.toNat : Int) by omega, show ¬ (c.toNat : Int) ≤ 122 by omega, show ¬ (c.toNat : Int) < 48 by omega, show (57 : Int) < (c.toNat : Int) by omega, show (57 : Nat) < c.toNat by omega, show ¬ c.toNat < 48 by omega]
    · have hlet : letter c = false := by simp [letter, hc1]
      by_cases hi0 : i = 0
      · subst hi0
        have hd0 : puD .sidx [.str s, .int .i64 0] = some (.int .u8 c.toNat) := by simpa using hd
        have h1' : 0 < s.length := h1
        simp [-List.length_flatMap, -List.map_take, eF, h1', h4, hd0, hp, hlet, show ¬ (97 : Int) ≤ (c.toNat : Int) by omega]
      · by_cases hc3 : c.toNat < 48
        · have hdig : digit c = false := by simp [digit]; omega
          simp [-List.length_flatMap, -List.map_take, eF, h1, h4, hd, hp, hlet, hdig, hi0, show ¬ (97 : Int) ≤ (c.toNat : Int) by omega, show (c.toNat : Int) < 48 by omega, hc3]
        · by_cases hc4 : 57 < c.toNat
          · have hdig : digit c = false := by simp [digit]; omega
            simp [-List.length_flatMap, -List.map_take, eF, h1, h4, hd, hp, hlet, hdig, hi0, show ¬ (97 : Int) ≤ (c.toNat : Int) by omega, show ¬ (c.toNat : Int) < 48 by omega, show (57 : Int) < (c.toNat : Int) by omega, hc3, hc4]
          · have hdig : digit c = true := by simp [digit]; omega
            simp [-List.length_flatMap, -List.map_take, eF, h1, h4, hd, hp, hlet, hdig, hi0, show ¬ (97 : Int) ≤ (c.toNat : Int) by omega, show ¬ (c.toNat : Int) < 48 by omega, show ¬ (57 : Int) < (c.toNat : Int) by omega, hc3, hc4]
            exact WL.to ih (by simp) rfl fun x e σ' hh => by simpa [hlet, hdig, hi0] using hh
theorem C_RName {s : List UInt8} (hl : s.length ≤ 9223372036854775807) : lim T (.call false i_ref02_Name [.str s] σ) = some (.val (.bool (named s)) σ) := by
  refine call_of T_ref02_Name e_ref02_Name rfl ?_
  have hp : puD .slen [.str s] = some (.int .i64 s.length) := rfl
  simp [-List.length_flatMap, -List.map_take, eF]
  refine WL.to (L_RName (σ := [] :: σ) hl s.length 0 (by omega)) (by simp) rfl ?_
  rintro x e σ' ⟨rfl, h⟩
  simp only [List.drop_zero] at h
  unfold named
  cases hc : namedFrom 0 s
  · simp [hc] at h
    simp [h]
  · simp [hc] at h
    obtain ⟨rfl, g0⟩ := h
    by_cases h1 : 1 ≤ s.length
    · by_cases h2 : s.length ≤ 16
      · simp [-List.length_flatMap, -List.map_take, eF, g0, hp, inn, show (1 : Int) ≤ s.length by omega, show (s.length : Int) ≤ 16 by omega]
      · simp [-List.length_flatMap, -List.map_take, eF, g0, hp, inn, show (1 : Int) ≤ s.length by omega, show ¬ (s.length : Int) ≤ 16 by omega]
    · simp [-List.length_flatMap, -List.map_take, eF, g0, hp, inn, show ¬ (1 : Int) ≤ s.length by omega]

/-! ### Models -/
theorem L_RModel {f : Fld} {m : Mdl} (hl : m.vals.length ≤ 9223372036854775807) : ∀ (k i : Nat), i + k = m.vals.length →
    WL T [3, 5] false f_ref02_ModelFault_l10 [(3, .cref [.str m.name, .lst m.vals.length (m.vals.flatMap intE)]), (5, .int .i64 i)] σ
      (fun x e σ' => σ' = σ ∧ if allB (m.vals.drop i) (fun n => inn n (-100000) 100000) then x = .exit 0 else x = .ret ∧ get e 4 = .int .i64 1)
  | 0, i, hi => by
    refine WL_step e_ref02_ModelFault_l10 ?_
    have h1 : ¬ i < m.vals.length := by omega
    have h2 : m.vals.drop i = [] := List.drop_eq_nil_of_le (by omega)
    simp [-List.length_flatMap, -List.map_take, eF, h1, h2, allB]
  | k + 1, i, hi => by
    refine WL_step e_ref02_ModelFault_l10 ?_
    have h1 : i < m.vals.length := by omega
    obtain ⟨c, hc⟩ : ∃ c, m.vals[i]? = some c := ⟨_, List.getElem?_eq_getElem h1⟩
    have h2 := intE_at hc
    have h4 := wnext h1 (by omega)
    have h5 := drop_at hc
    have ih := L_RModel (f := f) hl k (i + 1) (by omega)
    rw [h5, allB_cons]
    cases hb : inn c (-100000) 100000
    · simp [-List.length_flatMap, -List.map_take, eF, h1, h2, h4, C_In2, hb]
    · simp [-List.length_flatMap, -List.map_take, eF, h1, h2, h4, C_In2, hb]
      exact WL.to ih (by simp) rfl fun x e σ' hh => by simpa [hb] using hh
theorem C_RModel {f : Fld} {m : Mdl} (hf : f.valid = true) (hn : m.name.length ≤ 9223372036854775807) (hl : m.vals.length ≤ 9223372036854775807) : lim T (.call false i_ref02_ModelFault [.agg [.int .i64 f.x, .int .i64 f.y, .int .i64 f.z, .int .i64 f.k], .agg [.str m.name, .lst m.vals.length (m.vals.flatMap intE)]] σ) = some (.val (.int .i64 (f.model m)) σ) := by
  refine call_of T_ref02_ModelFault e_ref02_ModelFault rfl ?_
  obtain ⟨h6, h7⟩ := model_sz hf
  have w1 := w64 (n := f.k * f.size) (by omega)
  have hb := fun σ => C_RSize' (σ := σ) (f := f) hf
  cases hc1 : named m.name
  · simp [-List.length_flatMap, -List.map_take, eF, C_RName hn, hc1, Fld.model]
  · by_cases hc2 : (m.vals.length : Int) = f.k * f.size
    · simp [-List.length_flatMap, -List.map_take, eF, C_RName hn, hc1, hc2, hb, w1, cl_int]
      refine WL.to (L_RModel (σ := [] :: σ) (f := f) (m := m) hl m.vals.length 0 (by omega)) (by simp) (by simp) ?_
      rintro x e σ' ⟨rfl, h⟩
      simp only [List.drop_zero] at h
      cases hc3 : allB m.vals (fun n => inn n (-100000) 100000)
      · simp [hc3] at h
        simp [h, Fld.model, hc1, hc2, hc3]
      · simp [hc3] at h
        simp [-List.length_flatMap, -List.map_take, eF, h, Fld.model, hc1, hc2, hc3]
    · simp [-List.length_flatMap, -List.map_take, eF, C_RName hn, hc1, hc2, Fld.model, hb, w1]
end Go.Proofs.YtehandllpmlcoaaGreat
