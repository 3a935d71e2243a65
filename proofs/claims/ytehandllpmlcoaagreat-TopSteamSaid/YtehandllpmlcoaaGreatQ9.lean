/-
  What the reference's functions on beds and models answer; what the law asks of its arguments.
-/
import Derived.Test.YtehandllpmlcoaaGreatQ8
set_option linter.unusedVariables false
set_option linter.unusedSimpArgs false
namespace Go.Proofs.YtehandllpmlcoaaGreat
open Go Go.Abs Go.Rock
variable {σ : Stack}

theorem boreE_at {l : List Bore} {j : Nat} {w : Bore} (h : l[j]? = some w) : ((l.flatMap Bore.enc).drop (j * 3)).take 3 = [.int .i64 w.b, .int .i64 w.h, .int .i64 w.m] :=
  flat_at (f := Bore.enc) (w := 3) (fun _ => rfl) h
theorem L_RUsed {b : Bed} {w : Bore} (hl : b.wells.length ≤ 1000) {i : Nat} (hi : i < b.wells.length) : ∀ (k j : Nat), j + k = i →
    WL T [1, 3, 4, 5] false f_ref05_Right_l13 [(1, .cref [.int .i64 b.f.x, .int .i64 b.f.y, .int .i64 b.f.z, .int .i64 b.f.k, .lst b.tab.length (b.tab.flatMap Rw.enc), .int .i64 b.stiff, .int .i64 b.lift, .int .i64 b.deep, .lst b.wells.length (b.wells.flatMap Bore.enc)]), (3, .int .i64 i), (4, .own 0 [.int .i64 w.b, .int .i64 w.h, .int .i64 w.m]), (5, .int .i64 j)] σ
      (fun x e σ' => σ' = σ ∧ if (((b.wells.take i).drop j).map Bore.b).contains w.b then x = .ret ∧ get e 2 = .bool false else x = .exit 2 ∧ get e 1 = .cref [.int .i64 b.f.x, .int .i64 b.f.y, .int .i64 b.f.z, .int .i64 b.f.k, .lst b.tab.length (b.tab.flatMap Rw.enc), .int .i64 b.stiff, .int .i64 b.lift, .int .i64 b.deep, .lst b.wells.length (b.wells.flatMap Bore.enc)] ∧ get e 3 = .int .i64 i)
  | 0, j, hj => by
    refine WL_step e_ref05_Right_l13 ?_
    obtain rfl : j = i := by omega
    have h2 : (b.wells.take j).drop j = [] := List.drop_eq_nil_of_le (by rw [List.length_take]; omega)
    rw [h2]
    simp [-List.length_flatMap, -List.map_take, eF]
  | k + 1, j, hj => by
    refine WL_step e_ref05_Right_l13 ?_
    have h1 : j < i := by omega
    have h1' : j < b.wells.length := by omega
    obtain ⟨r, hr⟩ : ∃ r, b.wells[j]? = some r := ⟨_, List.getElem?_eq_getElem (by omega)⟩
    have h2 := boreE_at hr
    have h4 := wnext h1' (by omega)
    have h5 : (b.wells.take i).drop j = r :: (b.wells.take i).drop (j + 1) := drop_at (by rw [List.getElem?_take]; simp [h1, hr])
    have ih := L_RUsed (w := w) hl hi k (j + 1) (by omega)
    rw [h5, List.map_cons]
    by_cases hc : r.b = w.b
    · simp [-List.length_flatMap, -List.map_take, eF, h1, h1', h2, h4, hc]
    · simp [-List.length_flatMap, -List.map_take, eF, h1, h1', h2, h4, hc]
      have hc' : ¬ w.b = r.b := fun h => hc h.symm
      exact WL.to ih (by simp) rfl fun x e σ' hh => by simpa [hc'] using hh
theorem L_RWells {b : Bed} (hf : b.f.valid = true) (hl : b.wells.length ≤ 8) : ∀ (k i : Nat), i + k = b.wells.length →
    WL T [1, 3] false f_ref05_Right_l15 [(1, .cref [.int .i64 b.f.x, .int .i64 b.f.y, .int .i64 b.f.z, .int .i64 b.f.k, .lst b.tab.length (b.tab.flatMap Rw.enc), .int .i64 b.stiff, .int .i64 b.lift, .int .i64 b.deep, .lst b.wells.length (b.wells.flatMap Bore.enc)]), (3, .int .i64 i)] σ
      (fun x e σ' => σ' = σ ∧ if wellsOk b.size ((b.wells.take i).map Bore.b) (b.wells.drop i) then x = .exit 0 else x = .ret ∧ get e 2 = .bool false)
  | 0, i, hi => by
    refine WL_step e_ref05_Right_l15 ?_
    have h1 : ¬ i < b.wells.length := by omega
    have h2 : b.wells.drop i = [] := List.drop_eq_nil_of_le (by omega)
    simp [-List.length_flatMap, -List.map_take, eF, h1, h2, wellsOk]
  | k + 1, i, hi => by
    refine WL_step e_ref05_Right_l15 ?_
    have h1 : i < b.wells.length := by omega
    obtain ⟨w, hw⟩ : ∃ r, b.wells[i]? = some r := ⟨_, List.getElem?_eq_getElem h1⟩
    have h2 := boreE_at hw
    have h4 := wnext h1 (by omega)
    have h5 := drop_at hw
    have ih := L_RWells hf hl k (i + 1) (by omega)
    have e1 : (b.wells.take (i + 1)).map Bore.b = (b.wells.take i).map Bore.b ++ [w.b] := by rw [List.take_add_one, hw]; simp
    rw [e1] at ih
    rw [h5, wellsOk]
    have hS := fun σ => C_RSize' (σ := σ) hf
    obtain ⟨⟨s1, s2⟩, _⟩ := model_sz hf
    have w1 := w64 (n := b.f.size - 1) (by omega)
    have hsz : b.size = b.f.size := rfl
    rw [hsz] at ih ⊢
    cases c1 : inn w.b 0 (b.f.size - 1)
    · simp [-List.length_flatMap, -List.map_take, eF, h1, h2, h4, hS, w1, C_In1, c1, Bore.ok]
    cases c2 : inn w.h 0 3000
    · simp [-List.length_flatMap, -List.map_take, eF, h1, h2, h4, hS, w1, C_In1, c1, c2, Bore.ok]
    cases c3 : inn w.m 0 1000000
    · simp [-List.length_flatMap, -List.map_take, eF, h1, h2, h4, hS, w1, C_In1, c1, c2, c3, Bore.ok]
    simp [-List.length_flatMap, -List.map_take, eF, h1, h2, h4, hS, w1, C_In1, c1, c2, c3]
    refine WL.to (L_RUsed (w := w) (by omega) h1 i 0 (by omega)) (by simp) rfl ?_
    rintro x e σ' ⟨rfl, h⟩
    simp only [List.drop_zero] at h
    cases hc : ((b.wells.take i).map Bore.b).contains w.b
    · rw [hc] at h
      simp at h
      obtain ⟨rfl, g1, g3⟩ := h
      simp [-List.length_flatMap, -List.map_take, eF, g1, g3, h4]
      have hc' : ¬ w.b ∈ List.take i (List.map Bore.b b.wells) := by simpa using hc
      refine WL.to ih (by simp) rfl fun x e σ' hh => ?_
      simpa [Bore.ok, c1, c2, c3, hc'] using hh
    · rw [hc] at h
      simp at h
      have hc' : w.b ∈ List.take i (List.map Bore.b b.wells) := by simpa using hc
      simp [h, Bore.ok, hc']
theorem C_RBed {b : Bed} (ht : b.tab.length ≤ 9223372036854775807) (hw : b.wells.length ≤ 9223372036854775807) : lim T (.call false i_ref05_Right [.agg [.int .i64 b.f.x, .int .i64 b.f.y, .int .i64 b.f.z, .int .i64 b.f.k, .lst b.tab.length (b.tab.flatMap Rw.enc), .int .i64 b.stiff, .int .i64 b.lift, .int .i64 b.deep, .lst b.wells.length (b.wells.flatMap Bore.enc)]] σ) = some (.val (.bool b.valid) σ) := by
  refine call_of T_ref05_Right e_ref05_Right rfl ?_
  have hT := fun σ => C_TRight (σ := σ) ht
  have hF := fun σ => C_FRight (σ := σ) (f := b.f)
  unfold Bed.valid Bed.ok1
  cases c1 : b.f.valid
  · simp [-List.length_flatMap, -List.map_take, eF, hF, c1, cl_rw, cl_bore]
  by_cases c2 : 4 ≤ b.f.k
  rotate_left
  · simp [-List.length_flatMap, -List.map_take, eF, hF, c1, c2, show b.f.k < 4 by omega, cl_rw, cl_bore]
  have c2' : ¬ b.f.k < 4 := by omega
  cases c3 : tabOk b.tab
  · simp [-List.length_flatMap, -List.map_take, eF, hF, hT, c1, c2, c2', c3, cl_rw, cl_bore]
  cases c4 : inn b.stiff 1 100000
  · simp [-List.length_flatMap, -List.map_take, eF, hF, hT, C_In1, c1, c2, c2', c3, c4, cl_rw, cl_bore]
  cases c5 : inn b.lift 0 1000
  · simp [-List.length_flatMap, -List.map_take, eF, hF, hT, C_In1, c1, c2, c2', c3, c4, c5, cl_rw, cl_bore]
  cases c6 : inn b.deep 0 3000
  · simp [-List.length_flatMap, -List.map_take, eF, hF, hT, C_In1, c1, c2, c2', c3, c4, c5, c6, cl_rw, cl_bore]
  by_cases c7 : b.wells.length ≤ 8
  rotate_left
  · simp [-List.length_flatMap, -List.map_take, eF, hF, hT, C_In1, c1, c2, c2', c3, c4, c5, c6, c7, show (8 : Int) < b.wells.length by omega, cl_rw, cl_bore]
  simp [-List.length_flatMap, -List.map_take, eF, hF, hT, C_In1, c1, c2, c2', c3, c4, c5, c6, c7, show ¬ (8 : Int) < b.wells.length by omega, cl_rw, cl_bore]
  refine WL.to (L_RWells (σ := [] :: σ) c1 c7 b.wells.length 0 (by omega)) (by simp) (by simp) ?_
  rintro x e σ' ⟨rfl, h⟩
  simp only [List.drop_zero, List.take_zero, List.map_nil] at h
  cases hc : wellsOk b.size [] b.wells
  · simp [hc] at h
    simp [h, c2, c7]
  · simp [hc] at h
    simp [-List.length_flatMap, -List.map_take, eF, h, c2, c7]

/-! ### Lists of models -/
theorem mdlE_at {l : List Mdl} {j : Nat} {m : Mdl} (h : l[j]? = some m) : ((l.flatMap Mdl.enc).drop (j * 2)).take 2 = [.str m.name, .lst m.vals.length (m.vals.flatMap intE)] :=
  flat_at (f := Mdl.enc) (w := 2) (fun _ => rfl) h
theorem L_RTwice {f : Fld} {l : List Mdl} {m : Mdl} {i : Nat} (hm : l[i]? = some m) (hl : l.length ≤ 9223372036854775807) : ∀ (k j : Nat), j + k = i →
    WL T [1, 2, 5, 7] false f_ref02_ModelsFault_l13 [(1, .lst l.length (l.flatMap Mdl.enc)), (2, .cref [.int .i64 f.x, .int .i64 f.y, .int .i64 f.z, .int .i64 f.k]), (5, .int .i64 i), (7, .int .i64 j)] σ
      (fun x e σ' => σ' = σ ∧ if (((l.take i).drop j).map Mdl.name).contains m.name then x = .ret ∧ get e 4 = .int .i64 6 else x = .exit 2 ∧ get e 1 = .lst l.length (l.flatMap Mdl.enc) ∧ get e 2 = .cref [.int .i64 f.x, .int .i64 f.y, .int .i64 f.z, .int .i64 f.k] ∧ get e 5 = .int .i64 i)
  | 0, j, hj => by
    refine WL_step e_ref02_ModelsFault_l13 ?_
    obtain rfl : j = i := by omega
    have h2 : (l.take j).drop j = [] := List.drop_eq_nil_of_le (by rw [List.length_take]; omega)
    rw [h2]
    simp [-List.length_flatMap, -List.map_take, eF]
  | k + 1, j, hj => by
    refine WL_step e_ref02_ModelsFault_l13 ?_
    have h0 : i < l.length := (List.getElem?_eq_some_iff.1 hm).1
    have h1 : j < i := by omega
    have h1' : j < l.length := by omega
    obtain ⟨r, hr⟩ : ∃ r, l[j]? = some r := ⟨_, List.getElem?_eq_getElem (by omega)⟩
    have h2 := mdlE_at hr
    have h3 := mdlE_at hm
    have h4 := wnext h1' (by omega)
    have h5 : (l.take i).drop j = r :: (l.take i).drop (j + 1) := drop_at (by rw [List.getElem?_take]; simp [h1, hr])
    have ih := L_RTwice (f := f) hm hl k (j + 1) (by omega)
    rw [h5, List.map_cons]
    have hp : puD (.seq false) [.str r.name, .str m.name] = some (.bool (r.name == m.name)) := rfl
    by_cases hc : r.name = m.name
    · rw [hc] at hp
      simp [-List.length_flatMap, -List.map_take, eF, h0, h1, h1', h2, h3, h4, hp, hc]
    · have hc' : ¬ m.name = r.name := fun h => hc h.symm
      have hb : (r.name == m.name) = false := by simpa using hc
      rw [hb] at hp
      simp [-List.length_flatMap, -List.map_take, eF, h0, h1, h1', h2, h3, h4, hp]
      exact WL.to ih (by simp) rfl fun x e σ' hh => by simpa [hc'] using hh
theorem L_RModels {f : Fld} {l : List Mdl} (hf : f.valid = true) (hs : ∀ m ∈ l, m.name.length ≤ 9223372036854775807 ∧ m.vals.length ≤ 9223372036854775807) (hl : l.length ≤ 9223372036854775807) : ∀ (k i : Nat), i + k = l.length →
    WL T [1, 2, 5] false f_ref02_ModelsFault_l15 [(1, .lst l.length (l.flatMap Mdl.enc)), (2, .cref [.int .i64 f.x, .int .i64 f.y, .int .i64 f.z, .int .i64 f.k]), (5, .int .i64 i)] σ
      (fun x e σ' => σ' = σ ∧ if f.each ((l.take i).map Mdl.name) (l.drop i) = 0 then x = .exit 0 else x = .ret ∧ get e 4 = .int .i64 (f.each ((l.take i).map Mdl.name) (l.drop i)))
  | 0, i, hi => by
    refine WL_step e_ref02_ModelsFault_l15 ?_
    have h1 : ¬ i < l.length := by omega
    have h2 : l.drop i = [] := List.drop_eq_nil_of_le (by omega)
    simp [-List.length_flatMap, -List.map_take, eF, h1, h2, Fld.each]
  | k + 1, i, hi => by
    refine WL_step e_ref02_ModelsFault_l15 ?_
    have h1 : i < l.length := by omega
    obtain ⟨m, hm⟩ : ∃ m, l[i]? = some m := ⟨_, List.getElem?_eq_getElem h1⟩
    have h2 := mdlE_at hm
    have h4 := wnext h1 (by omega)
    have h5 := drop_at hm
    obtain ⟨hs1, hs2⟩ := hs m (List.mem_of_getElem? hm)
    have hC := fun σ => C_RModel (σ := σ) hf hs1 hs2
    have ih := L_RModels hf hs hl k (i + 1) (by omega)
    have e1 : (l.take (i + 1)).map Mdl.name = (l.take i).map Mdl.name ++ [m.name] := by rw [List.take_add_one, hm]; simp
    rw [e1] at ih
    rw [h5, Fld.each]
    by_cases hc1 : f.model m = 0
    · simp [-List.length_flatMap, -List.map_take, eF, h1, h2, h4, hC, hc1]
      refine WL.to (L_RTwice (f := f) hm hl i 0 (by omega)) (by simp) rfl ?_
      rintro x e σ' ⟨rfl, h⟩
      simp only [List.drop_zero] at h
      cases hc : ((l.take i).map Mdl.name).contains m.name
      · rw [hc] at h
        simp at h
        obtain ⟨rfl, g1, g2, g5⟩ := h
        simp [-List.length_flatMap, -List.map_take, eF, g1, g2, g5, h4]
        have hc' : ¬ m.name ∈ List.take i (List.map Mdl.name l) := by simpa using hc
        exact WL.to ih (by simp) rfl fun x e σ' hh => by simpa [hc1, hc'] using hh
      · rw [hc] at h
        simp at h
        have hc' : m.name ∈ List.take i (List.map Mdl.name l) := by simpa using hc
        simp [h, hc', hc1]
    · simp [-List.length_flatMap, -List.map_take, eF, h1, h2, h4, hC, hc1]
theorem C_RModels {f : Fld} {l : List Mdl} (hf : f.valid = true) (hs : ∀ m ∈ l, m.name.length ≤ 9223372036854775807 ∧ m.vals.length ≤ 9223372036854775807) (hl : l.length ≤ 9223372036854775807) :
    lim T (.call false i_ref02_ModelsFault [.agg [.int .i64 f.x, .int .i64 f.y, .int .i64 f.z, .int .i64 f.k], .lst l.length (l.flatMap Mdl.enc)] σ) = some (.val (.int .i64 (f.models l)) σ) := by
  refine call_of T_ref02_ModelsFault e_ref02_ModelsFault rfl ?_
  unfold Fld.models
  by_cases h1 : l.length < 1
  · have h0 : l = [] := List.length_eq_zero_iff.1 (by omega)
    subst h0
    simp [-List.length_flatMap, -List.map_take, eF, inn]
  by_cases h2 : 40 < l.length
  · have hi : inn l.length 1 40 = false := by simp [inn]; omega
    simp [-List.length_flatMap, -List.map_take, eF, hi, show ¬ (l.length : Int) < 1 by omega, show (40 : Int) < l.length by omega]
  have hi : inn l.length 1 40 = true := inn_iff.2 (by omega)
  have hne : l ≠ [] := fun h => h1 (by rw [h]; decide)
  simp [-List.length_flatMap, -List.map_take, eF, hi, show ¬ (l.length : Int) < 1 by omega, show ¬ (40 : Int) < l.length by omega, hne]
  refine WL.to (L_RModels (σ := [] :: σ) hf hs hl l.length 0 (by omega)) (by simp) (by simp) ?_
  rintro x e σ' ⟨rfl, h⟩
  simp only [List.drop_zero, List.take_zero, List.map_nil] at h
  by_cases hc : f.each [] l = 0
  · rw [if_pos hc] at h
    subst h
    simp [-List.length_flatMap, -List.map_take, eF, hc, hi]
  · rw [if_neg hc] at h
    obtain ⟨rfl, h⟩ := h
    simp [h, hi]
end Go.Proofs.YtehandllpmlcoaaGreat
