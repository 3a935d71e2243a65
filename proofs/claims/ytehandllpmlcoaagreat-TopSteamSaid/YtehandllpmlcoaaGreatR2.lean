/-
  What the functions on lists of models, on tables and beds answer.
-/
import Derived.Test.YtehandllpmlcoaaGreatR1
set_option linter.unusedVariables false
set_option linter.unusedSimpArgs false
namespace Go.Proofs.YtehandllpmlcoaaGreat
open Go Go.Abs Go.Rock
variable {σ : Stack}

/-- Names that were met, as a map's entries. -/
def metE (met : List (List UInt8)) : List D := met.map fun n => .tup [.str n, .bool true]
theorem findK_met {k : List UInt8} : ∀ {met : List (List UInt8)}, ∃ r, findK none (.str k) (metE met) = some r ∧ (met.contains k = true → ∃ j, r = some (j, .bool true)) ∧ (met.contains k = false → r = none)
  | [] => ⟨none, rfl, by simp, by simp⟩
  | n :: met => by
    obtain ⟨r, h1, h2, h3⟩ := findK_met (k := k) (met := met)
    simp only [metE, List.map_cons] at h1 ⊢
    by_cases hk : k = n
    · subst hk
      exact ⟨some (0, .bool true), by simp [findK, keyQ], fun _ => ⟨0, rfl⟩, by simp⟩
    · have hb : (k == n) = false := by simpa using hk
      refine ⟨r.map fun y => (y.1 + 1, y.2), by simp [findK, keyQ, hb, h1], ?_, ?_⟩
      · intro hc
        have : met.contains k = true := by simpa [hk] using hc
        obtain ⟨j, rfl⟩ := h2 this
        exact ⟨j + 1, rfl⟩
      · intro hc
        have : met.contains k = false := by simp at hc ⊢; exact hc.2
        rw [h3 this]; rfl
theorem mpGet {S : Stack} {l i : Nat} {met : List (List UInt8)} {k : List UInt8} (h : cells? S l i 0 = some (metE met)) : mpD S (.get none (.bool false) false) [.yld l i, .str k] = some (.bool (met.contains k), S) := by
  obtain ⟨r, h1, h2, h3⟩ := findK_met (k := k) (met := met)
  simp only [mpD, mapD, h, Option.map_some, h1]
  cases hc : met.contains k
  · rw [h3 hc]; simp [keyQ]
  · obtain ⟨j, rfl⟩ := h2 hc; simp [keyQ]
theorem mpPut {S : Stack} {l i : Nat} {met : List (List UInt8)} {k : List UInt8} (h : cells? S l i 0 = some (metE met)) (hn : met.contains k = false) :
    mpD S (.put none) [.yld l i, .str k, .bool true] = some (.undef, setBlk S l i (.cells 0 (metE (met ++ [k])))) := by
  obtain ⟨r, h1, h2, h3⟩ := findK_met (k := k) (met := met)
  simp only [mpD, mapD, h, Option.map_some, h1]
  rw [h3 hn]
  simp [keyQ, metE, D.clean]

theorem C_of {f : Fld} {m : Mdl} (hf : f.valid = true) (hn : m.name.length ≤ 1000000000) (hl : m.vals.length ≤ 1000000000) :
    lim T (.call false i_field_Field_models_1 [.agg [.str m.name, .lst m.vals.length (m.vals.flatMap intE)], .cref [.int .i64 f.x, .int .i64 f.y, .int .i64 f.z, .int .i64 f.k]] σ) = some (.val (.tup [.str m.name, .int .i64 (f.model m)]) σ) := by
  refine call_of T_field_Field_models_1 e_field_Field_models_1 rfl ?_
  simp [-List.length_flatMap, -List.map_take, eF, C_model hf hn hl]

theorem L_each {f : Fld} {l : List Mdl} (hf : f.valid = true) (hs : ∀ m ∈ l, m.name.length ≤ 1000000000 ∧ m.vals.length ≤ 1000000000) (hl : l.length ≤ 1000000000) : ∀ (k i : Nat) (met : List (List UInt8)), i + k = l.length →
    WL T [1, 5, 11, 12, 13] false f_field_each_field_Model_l12 [(1, .fn i_field_Field_models_1 [] [.cref [.int .i64 f.x, .int .i64 f.y, .int .i64 f.z, .int .i64 f.k]]), (5, .yld σ.length 0), (11, .lst l.length (l.flatMap Mdl.enc)), (12, .int .i64 l.length), (13, .int .i64 i)] ([.cells 0 (metE met)] :: σ)
      (fun x e σ' => ∃ s, σ' = s :: σ ∧ if f.each met (l.drop i) = 0 then x = .exit 0 else x = .ret ∧ get e 4 = .int .i64 (f.each met (l.drop i)))
  | 0, i, met, hi => by
    refine WL_step e_field_each_field_Model_l12 ?_
    have h1 : ¬ i < l.length := by omega
    have h2 : l.drop i = [] := List.drop_eq_nil_of_le (by omega)
    simp [-List.length_flatMap, -List.map_take, eF, h1, h2, Fld.each]
  | k + 1, i, met, hi => by
    refine WL_step e_field_each_field_Model_l12 ?_
    have h1 : i < l.length := by omega
    obtain ⟨m, hm⟩ : ∃ m, l[i]? = some m := ⟨_, List.getElem?_eq_getElem h1⟩
    have h2 := flat_at (f := Mdl.enc) (w := 2) (fun _ => rfl) hm
    have h4 := wnext h1 (by omega)
    have h5 := drop_at hm
    obtain ⟨hs1, hs2⟩ := hs m (List.mem_of_getElem? hm)
    have hC := fun σ => C_of (σ := σ) hf hs1 hs2
    rw [h5, Fld.each]
    by_cases hc1 : f.model m = 0
    · have hg := mpGet (S := [.cells 0 (metE met)] :: σ) (l := σ.length) (i := 0) (met := met) (k := m.name) (by simp)
      cases hc2 : met.contains m.name
      · rw [hc2] at hg
        have hp := mpPut (S := [.cells 0 (metE met)] :: σ) (l := σ.length) (i := 0) (met := met) (k := m.name) (by simp) hc2
        have ih := L_each hf hs hl k (i + 1) (met ++ [m.name]) (by omega)
        simp at hp
        have hc3 : ¬ m.name ∈ met := by simpa using hc2
        simp [-List.length_flatMap, -List.map_take, eF, h1, h2, h4, hC, hc1, hg, hp, hc3]
        exact WL.to ih (by simp) (by simp) fun x e σ' hh => by simpa [hc1] using hh
      · rw [hc2] at hg
        have hc3 : m.name ∈ met := by simpa using hc2
        simp [-List.length_flatMap, -List.map_take, eF, h1, h2, h4, hC, hc1, hg, hc3]
    · simp [-List.length_flatMap, -List.map_take, eF, h1, h2, h4, hC, hc1]
theorem C_each {f : Fld} {l : List Mdl} (hf : f.valid = true) (hs : ∀ m ∈ l, m.name.length ≤ 1000000000 ∧ m.vals.length ≤ 1000000000) (hl : l.length ≤ 1000000000) :
    lim T (.call false i_field_each_field_Model [.lst l.length (l.flatMap Mdl.enc), .fn i_field_Field_models_1 [] [.cref [.int .i64 f.x, .int .i64 f.y, .int .i64 f.z, .int .i64 f.k]]] σ) = some (.val (.int .i64 (f.each [] l)) σ) := by
  refine call_of T_field_each_field_Model e_field_each_field_Model rfl ?_
  have hm : mpD ([] :: σ) .make [] = some (.yld σ.length 0, [.cells 0 (metE [])] :: σ) := by simp [mpD, metE]
  simp [-List.length_flatMap, -List.map_take, eF, hm]
  refine WL.to (L_each (σ := σ) hf hs hl l.length 0 [] (by omega)) (by simp) (by simp) ?_
  rintro x e σ' ⟨s, rfl, h⟩
  simp only [List.drop_zero] at h
  by_cases hc : f.each [] l = 0
  · rw [if_pos hc] at h
    subst h
    simp [-List.length_flatMap, -List.map_take, eF, hc]
  · rw [if_neg hc] at h
    obtain ⟨rfl, h⟩ := h
    simp [h]
theorem C_models {f : Fld} {l : List Mdl} (hf : f.valid = true) (hs : ∀ m ∈ l, m.name.length ≤ 1000000000 ∧ m.vals.length ≤ 1000000000) (hl : l.length ≤ 1000000000) :
    lim T (.call false i_field_Field_models [.agg [.int .i64 f.x, .int .i64 f.y, .int .i64 f.z, .int .i64 f.k], .lst l.length (l.flatMap Mdl.enc)] σ) = some (.val (.int .i64 (f.models l)) σ) := by
  refine call_of T_field_Field_models e_field_Field_models rfl ?_
  cases hc : inn l.length 1 40
  · simp [-List.length_flatMap, -List.map_take, eF, C_fwithin, hc, Fld.models]
  · simp [-List.length_flatMap, -List.map_take, eF, C_fwithin, hc, Fld.models, C_each hf hs hl]
theorem C_CheckModels1 {f : Fld} {l : List Mdl} (hf : f.valid = true) (hs : ∀ m ∈ l, m.name.length ≤ 1000000000 ∧ m.vals.length ≤ 1000000000) (hl : l.length ≤ 1000000000) :
    lim T (.call false i_field_CheckModels_1 [.cref [.int .i64 f.x, .int .i64 f.y, .int .i64 f.z, .int .i64 f.k], .cref [.lst l.length (l.flatMap Mdl.enc)]] σ) = some (.val (.int .i64 (f.models l)) σ) := by
  refine call_of T_field_CheckModels_1 e_field_CheckModels_1 rfl ?_
  simp [-List.length_flatMap, -List.map_take, eF, C_models hf hs hl]

/-- The first error of some functions: of two. -/
theorem C_first {fs : List D} {es : List Int} (hlen : fs.length = es.length) (hl : fs.length ≤ 100) (hfs : ∀ d ∈ fs, d.strip = d ∧ d.calm = d ∧ ldD false 1 (some [d]) = some d)
    (hcall : ∀ (i : Nat) d n, fs[i]? = some d → es[i]? = some n → (∀ j, j < i → es[j]? = some 0) → ∀ σ, callv (lim T) false d [] σ = some (.int .i64 n, σ)) :
    lim T (.call false i_field_first [.lst fs.length fs] σ) = some (.val (.int .i64 (firstE id es)) σ) := by
  have loop : ∀ (k i : Nat) (σ : Stack), i + k = fs.length → (∀ j, j < i → es[j]? = some 0) →
      WL T [6, 7, 8] false f_field_first_l8 [(6, .lst fs.length fs), (7, .int .i64 fs.length), (8, .int .i64 i)] σ
        (fun x e σ' => σ' = σ ∧ if firstE id (es.drop i) = 0 then x = .exit 0 else x = .ret ∧ get e 2 = .int .i64 (firstE id (es.drop i))) := by
    intro k
    induction k with
    | zero =>
      intro i σ hi h0
      refine WL_step e_field_first_l8 ?_
      have h1 : ¬ i < fs.length := by omega
      have h2 : es.drop i = [] := List.drop_eq_nil_of_le (by omega)
      simp [-List.length_flatMap, -List.map_take, eF, h1, h2, firstE]
    | succ k ih =>
      intro i σ hi h0
      refine WL_step e_field_first_l8 ?_
      have h1 : i < fs.length := by omega
      obtain ⟨d, hd⟩ : ∃ d, fs[i]? = some d := ⟨_, List.getElem?_eq_getElem h1⟩
      obtain ⟨n, hn⟩ : ∃ n, es[i]? = some n := ⟨_, List.getElem?_eq_getElem (by omega)⟩
      obtain ⟨g1, g2, g3⟩ := hfs d (List.mem_of_getElem? hd)
      have h2 := flat_at (f := fun d : D => [d]) (w := 1) (fun _ => rfl) (l := fs) hd
      rw [show (fs.flatMap fun d => [d]) = fs from by simp] at h2
      have h4 := wnext h1 (by omega)
      have h5 := drop_at hn
      have hc := hcall i d n hd hn h0
      simp only [Nat.mul_one] at h2
      rw [h5, firstE]
      by_cases hz : n = 0
      · subst hz
        have ih' := ih (i + 1) σ (by omega) (fun j hj => by
          by_cases hji : j = i
          · subst hji; exact hn
          · exact h0 j (by omega))
        simp [-List.length_flatMap, -List.map_take, eF, h1, h2, h4, g1, g2, hc]
        exact WL.to ih' (by simp) rfl fun x e σ' hh => by simpa using hh
      · simp [-List.length_flatMap, -List.map_take, eF, h1, h2, h4, g1, g2, hc, hz]
  refine call_of T_field_first e_field_first rfl ?_
  simp [-List.length_flatMap, -List.map_take, eF]
  refine WL.to (loop fs.length 0 ([] :: σ) (by omega) (by simp)) (by simp) rfl ?_
  rintro x e σ' ⟨rfl, h⟩
  simp only [List.drop_zero] at h
  by_cases hc : firstE id es = 0
  · rw [if_pos hc] at h
    subst h
    simp [-List.length_flatMap, -List.map_take, eF, hc]
  · rw [if_neg hc] at h
    obtain ⟨rfl, h⟩ := h
    simp [h]
theorem C_CheckModels {f : Fld} {l : List Mdl} (hs : ∀ m ∈ l, m.name.length ≤ 1000000000 ∧ m.vals.length ≤ 1000000000) (hl : l.length ≤ 1000000000) :
    lim T (.call false i_field_CheckModels [.agg [.int .i64 f.x, .int .i64 f.y, .int .i64 f.z, .int .i64 f.k], .lst l.length (l.flatMap Mdl.enc)] σ) = some (.val (.int .i64 (checkModels f l)) σ) := by
  refine call_of T_field_CheckModels e_field_CheckModels rfl ?_
  have hC := fun σ => C_first (σ := σ) (fs := [.fn i_field_Field_shape [.agg [.int .i64 f.x, .int .i64 f.y, .int .i64 f.z, .int .i64 f.k]] [], .fn i_field_CheckModels_1 [] [.cref [.int .i64 f.x, .int .i64 f.y, .int .i64 f.z, .int .i64 f.k], .cref [.lst l.length (l.flatMap Mdl.enc)]]]) (es := [f.shape, f.models l]) rfl (by simp) (by simp) (by
    intro i d n hd hn h0 σ
    match i with
    | 0 =>
      simp at hd hn
      subst hd hn
      simp [C_shape]
    | 1 =>
      simp at hd hn
      subst hd hn
      have h1 : f.valid = true := by
        have := h0 0 (by omega)
        simp [Fld.shape] at this
        exact this
      simp [C_CheckModels1 h1 hs hl]
    | i + 2 => simp at hd)
  simp at hC
  have e1 : firstE id [f.shape, f.models l] = checkModels f l := by
    simp only [firstE, id, checkModels, Fld.shape]
    by_cases h : f.valid = true
    · by_cases h2 : f.models l = 0 <;> simp [h, h2]
    · simp [h]
  rw [e1] at hC
  simp [-List.length_flatMap, -List.map_take, eF, hC]
end Go.Proofs.YtehandllpmlcoaaGreat
