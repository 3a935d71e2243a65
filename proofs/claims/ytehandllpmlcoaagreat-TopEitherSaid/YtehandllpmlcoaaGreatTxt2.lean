/- What functions of the program answer, and what follows; part 2. -/
import Derived.Test.YtehandllpmlcoaaGreatTxt1
import Derived.Test.YtehandllpmlcoaaGreatTxt0
/-
  What the reference's functions on beds and models answer; what the law asks of its arguments.
-/
set_option linter.unusedVariables false
set_option linter.unusedSimpArgs false
namespace Go.Proofs.YtehandllpmlcoaaGreat
open Go Go.Abs Go.Rock
variable {σ : Stack}

theorem boreE_at {l : List Bore} {j : Nat} {w : Bore} (h : l[j]? = some w) : ((l.flatMap Bore.enc).drop (j * 3)).take 3 = [.int .i64 w.b, .int .i64 w.h, .int .i64 w.m] :=
  flat_at (f := Bore.enc) (w := 3) (fun _ => rfl) h
theorem L_RUsed {b : Bed} {w : Bore} (hl : b.wells.length ≤ 1000) {i : Nat} (hi : i < b.wells.length) : ∀ (k j : Nat), j + k = i →
    WL T [1, 3, 4, 5] false f_ref05_Right_l13 [(1, .cref [.int .i64 b.f.x, .int .i64 b.f.y, .int .i64 b.f.z, .int .i64 b.f.k, .lst b.tab.length (b.tab.flatMap Rw.enc), .int .i64 b.stiff, .int .i64 b.lift, .int .i64 b.deep, .lst b.wells.length (b.wells.flatMap Bore.enc)]), (3, .int .i64 i), (4, .own 0 [.int .i64 w.b, .int .i64 w.h, .int .i64 w.m]), (5, .int .i64 j)] σ
      (fun x e σ' => σ' = σ ∧ if (((b.wells.take i).drop j).map Bore.b).contains w.b then x = .ret ∧ get e 2 = .bool false else x = .exit 2 ∧ get e 1 = .cref [.int .i64 b.f.x, .int .i64 b.f.y, .int .i64 b.f.z, .int .i64 b.f.k, .lst b.tab.length (b.tab.flatMap Rw.enc), .int .i64 b.stiff, .int .i64 b.lift, .int .i64 b.deep, .lst b.wells.length (b.wells.flatMap Bore.enc)] ∧ get e 3 = .int .i64 i)
  | 0, j, hj => by
    refine WL_step e_ref05_Right_l13 ?_
    obtain rfl : j = i := by omega
    have h2 : (b.wells.take j).drop j = [] := List.drop_eq_nil_of_le (by rw [List.length_take]; omega)
    rw [h2]
    simp [-List.length_flatMap, -List.map_take, eF]
  | k + 1, j, hj => by
    refine WL_step e_ref05_Right_l13 ?_
    have h1 : j < i := by omega
    have h1' : j < b.wells.length := by omega
    obtain ⟨r, hr⟩ : ∃ r, b.wells[j]? = some r := ⟨_, List.getElem?_eq_getElem (by omega)⟩
    have h2 := boreE_at hr
    have h4 := wnext h1' (by omega)
    have h5 : (b.wells.take i).drop j = r :: (b.wells.take i).drop (j + 1) := drop_at (by rw [List.getElem?_take]; simp [h1, hr])
    have ih := L_RUsed (w := w) hl hi k (j + 1) (by omega)
    rw [h5, List.map_cons]
    by_cases hc : r.b = w.b
    · simp [-List.length_flatMap, -List.map_take, eF, h1, h1', h2, h4, hc]
    · simp [-List.length_flatMap, -List.map_take, eF, h1, h1', h2, h4, hc]
      have hc' : ¬ w.b = r.b := fun h => hc h.symm
      exact WL.to ih (by simp) rfl fun x e σ' hh => by simpa [hc'] using hh
theorem L_RWells {b : Bed} (hf : b.f.valid = true) (hl : b.wells.length ≤ 8) : ∀ (k i : Nat), i + k = b.wells.length →
    WL T [1, 3] false f_ref05_Right_l15 [(1, .cref [.int .i64 b.f.x, .int .i64 b.f.y, .int .i64 b.f.z, .int .i64 b.f.k, .lst b.tab.length (b.tab.flatMap Rw.enc), .int .i64 b.stiff, .int .i64 b.lift, .int .i64 b.deep, .lst b.wells.length (b.wells.flatMap Bore.enc)]), (3, .int .i64 i)] σ
      (fun x e σ' => σ' = σ ∧ if wellsOk b.size ((b.wells.take i).map Bore.b) (b.wells.drop i) then x = .exit 0 else x = .ret ∧ get e 2 = .bool false)
  | 0, i, hi => by
    refine WL_step e_ref05_Right_l15 ?_
    have h1 : ¬ i < b.wells.length := by omega
    have h2 : b.wells.drop i = [] := List.drop_eq_nil_of_le (by omega)
    simp [-List.length_flatMap, -List.map_take, eF, h1, h2, wellsOk]
  | k + 1, i, hi => by
    refine WL_step e_ref05_Right_l15 ?_
    have h1 : i < b.wells.length := by omega
    obtain ⟨w, hw⟩ : ∃ r, b.wells[i]? = some r := ⟨_, List.getElem?_eq_getElem h1⟩
    have h2 := boreE_at hw
    have h4 := wnext h1 (by omega)
    have h5 := drop_at hw
    have ih := L_RWells hf hl k (i + 1) (by omega)
    have e1 : (b.wells.take (i + 1)).map Bore.b = (b.wells.take i).map Bore.b ++ [w.b] := by rw [List.take_add_one, hw]; simp
    rw [e1] at ih
    rw [h5, wellsOk]
    have hS := fun σ => C_RSize' (σ := σ) hf
    obtain ⟨⟨s1, s2⟩, _⟩ := model_sz hf
    have w1 := w64 (n := b.f.size - 1) (by omega)
    have hsz : b.size = b.f.size := rfl
    rw [hsz] at ih ⊢
    cases c1 : inn w.b 0 (b.f.size - 1)
    · simp [-List.length_flatMap, -List.map_take, eF, h1, h2, h4, hS, w1, C_In1, c1, Bore.ok]
    cases c2 : inn w.h 0 3000
    · simp [-List.length_flatMap, -List.map_take, eF, h1, h2, h4, hS, w1, C_In1, c1, c2, Bore.ok]
    cases c3 : inn w.m 0 1000000
    · simp [-List.length_flatMap, -List.map_take, eF, h1, h2, h4, hS, w1, C_In1, c1, c2, c3, Bore.ok]
    simp [-List.length_flatMap, -List.map_take, eF, h1, h2, h4, hS, w1, C_In1, c1, c2, c3]
    refine WL.to (L_RUsed (w := w) (by omega) h1 i 0 (by omega)) (by simp) rfl ?_
    rintro x e σ' ⟨rfl, h⟩
    simp only [List.drop_zero] at h
    cases hc : ((b.wells.take i).map Bore.b).contains w.b
    · rw [hc] at h
      simp at h
      obtain ⟨rfl, g1, g3⟩ := h
      simp [-List.length_flatMap, -List.map_take, eF, g1, g3, h4]
      have hc' : ¬ w.b ∈ List.take i (List.map Bore.b b.wells) := by simpa using hc
      refine WL.to ih (by simp) rfl fun x e σ' hh => ?_
      simpa [Bore.ok, c1, c2, c3, hc'] using hh
    · rw [hc] at h
      simp at h
      have hc' : w.b ∈ List.take i (List.map Bore.b b.wells) := by simpa using hc
      simp [h, Bore.ok, hc']
theorem C_RBed {b : Bed} (ht : b.tab.length ≤ 9223372036854775807) (hw : b.wells.length ≤ 9223372036854775807) : lim T (.call false i_ref05_Right [.agg [.int .i64 b.f.x, .int .i64 b.f.y, .int .i64 b.f.z, .int .i64 b.f.k, .lst b.tab.length (b.tab.flatMap Rw.enc), .int .i64 b.stiff, .int .i64 b.lift, .int .i64 b.deep, .lst b.wells.length (b.wells.flatMap Bore.enc)]] σ) = some (.val (.bool b.valid) σ) := by
  refine call_of T_ref05_Right e_ref05_Right rfl ?_
  have hT := fun σ => C_TRight (σ := σ) ht
  have hF := fun σ => C_FRight (σ := σ) (f := b.f)
  unfold Bed.valid Bed.ok1
  cases c1 : b.f.valid
  · simp [-List.length_flatMap, -List.map_take, eF, hF, c1, cl_rw, cl_bore]
  by_cases c2 : 4 ≤ b.f.k
  rotate_left
  · simp [-List.length_flatMap, -List.map_take, eF, hF, c1, c2, show b.f.k < 4 by omega, cl_rw, cl_bore]
  have c2' : ¬ b.f.k < 4 := by omega
  cases c3 : tabOk b.tab
  · simp [-List.length_flatMap, -List.map_take, eF, hF, hT, c1, c2, c2', c3, cl_rw, cl_bore]
  cases c4 : inn b.stiff 1 100000
  · simp [-List.length_flatMap, -List.map_take, eF, hF, hT, C_In1, c1, c2, c2', c3, c4, cl_rw, cl_bore]
  cases c5 : inn b.lift 0 1000
  · simp [-List.length_flatMap, -List.map_take, eF, hF, hT, C_In1, c1, c2, c2', c3, c4, c5, cl_rw, cl_bore]
  cases c6 : inn b.deep 0 3000
  · simp [-List.length_flatMap, -List.map_take, eF, hF, hT, C_In1, c1, c2, c2', c3, c4, c5, c6, cl_rw, cl_bore]
  by_cases c7 : b.wells.length ≤ 8
  rotate_left
  · simp [-List.length_flatMap, -List.map_take, eF, hF, hT, C_In1, c1, c2, c2', c3, c4, c5, c6, c7, show (8 : Int) < b.wells.length by omega, cl_rw, cl_bore]
  simp [-List.length_flatMap, -List.map_take, eF, hF, hT, C_In1, c1, c2, c2', c3, c4, c5, c6, c7, show ¬ (8 : Int) < b.wells.length by omega, cl_rw, cl_bore]
  refine WL.to (L_RWells (σ := [] :: σ) c1 c7 b.wells.length 0 (by omega)) (by simp) (by simp) ?_
  rintro x e σ' ⟨rfl, h⟩
  simp only [List.drop_zero, List.take_zero, List.map_nil] at h
  cases hc : wellsOk b.size [] b.wells
  · simp [hc] at h
    simp [h, c2, c7]
  · simp [hc] at h
    simp [-List.length_flatMap, -List.map_take, eF, h, c2, c7]

/-! ### Lists of models -/
theorem mdlE_at {l : List Mdl} {j : Nat} {m : Mdl} (h : l[j]? = some m) : ((l.flatMap Mdl.enc).drop (j * 2)).take 2 = [.str m.name, .lst m.vals.length (m.vals.flatMap intE)] :=
  flat_at (f := Mdl.enc) (w := 2) (fun _ => rfl) h
theorem L_RTwice {f : Fld} {l : List Mdl} {m : Mdl} {i : Nat} (hm : l[i]? = some m) (hl : l.length ≤ 9223372036854775807) : ∀ (k j : Nat), j + k = i →
    WL T [1, 2, 5, 7] false f_ref02_ModelsFault_l13 [(1, .lst l.length (l.flatMap Mdl.enc)), (2, .cref [.int .i64 f.x, .int .i64 f.y, .int .i64 f.z, .int .i64 f.k]), (5, .int .i64 i), (7, .int .i64 j)] σ
      (fun x e σ' => σ' = σ ∧ if (((l.take i).drop j).map Mdl.name).contains m.name then x = .ret ∧ get e 4 = .int .i64 6 else x = .exit 2 ∧ get e 1 = .lst l.length (l.flatMap Mdl.enc) ∧ get e 2 = .cref [.int .i64 f.x, .int .i64 f.y, .int .i64 f.z, .int .i64 f.k] ∧ get e 5 = .int .i64 i)
  | 0, j, hj => by
    refine WL_step e_ref02_ModelsFault_l13 ?_
    obtain rfl : j = i := by omega
    have h2 : (l.take j).drop j = [] := List.drop_eq_nil_of_le (by rw [List.length_take]; omega)
    rw [h2]
    simp [-List.length_flatMap, -List.map_take, eF]
  | k + 1, j, hj => by
    refine WL_step e_ref02_ModelsFault_l13 ?_
    have h0 : i < l.length := (List.getElem?_eq_some_iff.1 hm).1
    have h1 : j < i := by omega
    have h1' : j < l.length := by omega
    obtain ⟨r, hr⟩ : ∃ r, l[j]? = some r := ⟨_, List.getElem?_eq_getElem (by omega)⟩
    have h2 := mdlE_at hr
    have h3 := mdlE_at hm
    have h4 := wnext h1' (by omega)
    have h5 : (l.take i).drop j = r :: (l.take i).drop (j + 1) := drop_at (by rw [List.getElem?_take]; simp [h1, hr])
    have ih := L_RTwice (f := f) hm hl k (j + 1) (by omega)
    rw [h5, List.map_cons]
    have hp : puD (.seq false) [.str r.name, .str m.name] = some (.bool (r.name == m.name)) := rfl
    by_cases hc : r.name = m.name
    · rw [hc] at hp
      simp [-List.length_flatMap, -List.map_take, eF, h0, h1, h1', h2, h3, h4, hp, hc]
    · have hc' : ¬ m.name = r.name := fun h => hc h.symm
      have hb : (r.name == m.name) = false := by simpa using hc
      rw [hb] at hp
      simp [-List.length_flatMap, -List.map_take, eF, h0, h1, h1', h2, h3, h4, hp]
      exact WL.to ih (by simp) rfl fun x e σ' hh => by simpa [hc'] using hh
theorem L_RModels {f : Fld} {l : List Mdl} (hf : f.valid = true) (hs : ∀ m ∈ l, m.name.length ≤ 9223372036854775807 ∧ m.vals.length ≤ 9223372036854775807) (hl : l.length ≤ 9223372036854775807) : ∀ (k i : Nat), i + k = l.length →
    WL T [1, 2, 5] false f_ref02_ModelsFault_l15 [(1, .lst l.length (l.flatMap Mdl.enc)), (2, .cref [.int .i64 f.x, .int .i64 f.y, .int .i64 f.z, .int .i64 f.k]), (5, .int .i64 i)] σ
      (fun x e σ' => σ' = σ ∧ if f.each ((l.take i).map Mdl.name) (l.drop i) = 0 then x = .exit 0 else x = .ret ∧ get e 4 = .int .i64 (f.each ((l.take i).map Mdl.name) (l.drop i)))
  | 0, i, hi => by
    refine WL_step e_ref02_ModelsFault_l15 ?_
    have h1 : ¬ i < l.length := by omega
    have h2 : l.drop i = [] := List.drop_eq_nil_of_le (by omega)
    simp [-List.length_flatMap, -List.map_take, eF, h1, h2, Fld.each]
  | k + 1, i, hi => by
    refine WL_step e_ref02_ModelsFault_l15 ?_
    have h1 : i < l.length := by omega
    obtain ⟨m, hm⟩ : ∃ m, l[i]? = some m := ⟨_, List.getElem?_eq_getElem h1⟩
    have h2 := mdlE_at hm
    have h4 := wnext h1 (by omega)
    have h5 := drop_at hm
    obtain ⟨hs1, hs2⟩ := hs m (List.mem_of_getElem? hm)
    have hC := fun σ => C_RModel (σ := σ) hf hs1 hs2
    have ih := L_RModels hf hs hl k (i + 1) (by omega)
    have e1 : (l.take (i + 1)).map Mdl.name = (l.take i).map Mdl.name ++ [m.name] := by rw [List.take_add_one, hm]; simp
    rw [e1] at ih
    rw [h5, Fld.each]
    by_cases hc1 : f.model m = 0
    · simp [-List.length_flatMap, -List.map_take, eF, h1, h2, h4, hC, hc1]
      refine WL.to (L_RTwice (f := f) hm hl i 0 (by omega)) (by simp) rfl ?_
      rintro x e σ' ⟨rfl, h⟩
      simp only [List.drop_zero] at h
      cases hc : ((l.take i).map Mdl.name).contains m.name
      · rw [hc] at h
        simp at h
        obtain ⟨rfl, g1, g2, g5⟩ := h
        simp [-List.length_flatMap, -List.map_take, eF, g1, g2, g5, h4]
        have hc' : ¬ m.name ∈ List.take i (List.map Mdl.name l) := by simpa using hc
        exact WL.to ih (by simp) rfl fun x e σ' hh => by simpa [hc1, hc'] using hh
      · rw [hc] at h
        simp at h
        have hc' : m.name ∈ List.take i (List.map Mdl.name l) := by simpa using hc
        simp [h, hc', hc1]
    · simp [-List.length_flatMap, -List.map_take, eF, h1, h2, h4, hC, hc1]
theorem C_RModels {f : Fld} {l : List Mdl} (hf : f.valid = true) (hs : ∀ m ∈ l, m.name.length ≤ 9223372036854775807 ∧ m.vals.length ≤ 9223372036854775807) (hl : l.length ≤ 9223372036854775807) :
    lim T (.call false i_ref02_ModelsFault [.agg [.int .i64 f.x, .int .i64 f.y, .int .i64 f.z, .int .i64 f.k], .lst l.length (l.flatMap Mdl.enc)] σ) = some (.val (.int .i64 (f.models l)) σ) := by
  refine call_of T_ref02_ModelsFault e_ref02_ModelsFault rfl ?_
  unfold Fld.models
  by_cases h1 : l.length < 1
  · have h0 : l = [] := List.length_eq_zero_iff.1 (by omega)
    subst h0
    simp [-List.length_flatMap, -List.map_take, eF, inn]
  by_cases h2 : 40 < l.length
  · have hi : inn l.length 1 40 = false := by simp [inn]; omega
    simp [-List.length_flatMap, -List.map_take, eF, hi, show ¬ (l.length : Int) < 1 by omega, show (40 : Int) < l.length by omega]
  have hi : inn l.length 1 40 = true := inn_iff.2 (by omega)
  have hne : l ≠ [] := fun h => h1 (by rw [h]; decide)
  simp [-List.length_flatMap, -List.map_take, eF, hi, show ¬ (l.length : Int) < 1 by omega, show ¬ (40 : Int) < l.length by omega, hne]
  refine WL.to (L_RModels (σ := [] :: σ) hf hs hl l.length 0 (by omega)) (by simp) (by simp) ?_
  rintro x e σ' ⟨rfl, h⟩
  simp only [List.drop_zero, List.take_zero, List.map_nil] at h
  by_cases hc : f.each [] l = 0
  · rw [if_pos hc] at h
    subst h
    simp [-List.length_flatMap, -List.map_take, eF, hc, hi]
  · rw [if_neg hc] at h
    obtain ⟨rfl, h⟩ := h
    simp [h, hi]
end Go.Proofs.YtehandllpmlcoaaGreat

/-
  Whether a model fits, whether models do; what the law asks of its arguments.
-/
set_option linter.unusedVariables false
set_option linter.unusedSimpArgs false
namespace Go.Proofs.YtehandllpmlcoaaGreat
open Go Go.Abs Go.Rock
variable {σ : Stack}

theorem C_RValue {b : Bed} {m : Mdl} (h : Mv b m) {k i : Nat} (hk : k < 4) (hi : i < b.n) : lim T (.call false i_ref05_Value [.agg [.int .i64 b.f.x, .int .i64 b.f.y, .int .i64 b.f.z, .int .i64 b.f.k, .lst b.tab.length (b.tab.flatMap Rw.enc), .int .i64 b.stiff, .int .i64 b.lift, .int .i64 b.deep, .lst b.wells.length (b.wells.flatMap Bore.enc)], .agg [.str m.name, .lst m.vals.length (m.vals.flatMap intE)], .int .i64 k, .int .i64 i] σ) = some (.val (.int .i64 (kindAt b m k i)) σ) := by
  refine call_of T_ref05_Value e_ref05_Value rfl ?_
  have hS := fun σ => C_RSize' (σ := σ) h.bv.fv
  have hsz : b.f.size = (b.n : Int) := h.bv.sz
  rw [hsz] at hS
  have hn := h.bv.n
  obtain ⟨g1, g2⟩ := h.le
  have hkn : k * b.n ≤ 3 * b.n := Nat.mul_le_mul_right _ (by omega)
  have hlt : k * b.n + i < m.vals.length := by omega
  have w1 := w64 (n := (k : Int) * (b.n : Int)) (by rw [← Int.natCast_mul]; omega)
  have w2 := w64 (n := (k : Int) * (b.n : Int) + i) (by rw [← Int.natCast_mul]; omega)
  obtain ⟨c, hc⟩ : ∃ c, m.vals[k * b.n + i]? = some c := ⟨_, List.getElem?_eq_getElem hlt⟩
  have e1 : kindAt b m k i = c := by simp [kindAt, hc]
  have h2 := intE_at hc
  have e2 : (k : Int) * (b.n : Int) + (i : Int) = ((k * b.n + i : Nat) : Int) := by push_cast; rfl
  have h3 : ((k * b.n + i : Nat) : Int) < (m.vals.length : Int) := by omega
  have h4 : (0 : Int) ≤ ((k * b.n + i : Nat) : Int) := by omega
  rw [e2] at w2
  rw [e1]
  generalize k * b.n + i = j at *
  simp [-List.length_flatMap, -List.map_take, eF, hS, w1, e2, w2, hlt, h2, cl_rw, cl_bore, cl_int]
def fitAt (b : Bed) (m : Mdl) (i : Nat) : Bool := inn (kindAt b m 0 i) 1000 100000 && (inn (kindAt b m 1 i) 0 1000 && (inn (kindAt b m 2 i) 0 3000 && inn (kindAt b m 3 i) 0 1000))
def fitTo (b : Bed) (m : Mdl) (i : Nat) : Nat → Bool
  | 0 => true
  | k + 1 => fitAt b m i && fitTo b m (i + 1) k
theorem fitTo_iff {b : Bed} {m : Mdl} : ∀ {k i : Nat}, fitTo b m i k = true ↔ ∀ j, i ≤ j → j < i + k → fitAt b m j = true
  | 0, i => by simp [fitTo]; omega
  | k + 1, i => by
    rw [fitTo, Bool.and_eq_true, fitTo_iff]
    constructor
    · intro ⟨h1, h2⟩ j h3 h4
      by_cases hj : j = i
      · subst hj; exact h1
      · exact h2 j (by omega) (by omega)
    · intro h
      exact ⟨h i (by omega) (by omega), fun j h3 h4 => h j (by omega) (by omega)⟩
theorem check1 {b : Bed} {m : Mdl} (h : Bv b) : checkModels b.f [m] = 0 ↔ b.f.model m = 0 := by
  simp only [checkModels, h.fv, if_true, Fld.models, Fld.each]
  have h1 : inn (([m] : List Mdl).length : Nat) 1 40 = true := by simp [inn]
  rw [if_pos h1]
  by_cases hc : b.f.model m = 0
  · simp [hc]
  · simp [hc]
theorem fits_eq {b : Bed} {m : Mdl} (h : Bv b) : fits b m = (decide (b.f.model m = 0) && fitTo b m 0 b.n) := by
  by_cases hc : b.f.model m = 0
  · have hm := Mv.of h ((check1 h).2 hc)
    have hcm := (check1 h).2 hc
    have key : ∀ {k : Nat} {lo hi : Int}, k < 4 → (allB (kindL b m k) (fun n => inn n lo hi) = true ↔ ∀ i, i < b.n → inn (kindAt b m k i) lo hi = true) := by
      intro k lo hi hk
      rw [allB_iff]
      constructor
      · intro ha i hi'; exact ha _ (List.mem_of_getElem? (kindL_at hm hk hi'))
      · intro ha x hx
        obtain ⟨i, hi'⟩ := List.getElem?_of_mem hx
        have hlt : i < b.n := by have := (List.getElem?_eq_some_iff.1 hi').1; rwa [kindL_len hm hk] at this
        rw [kindL_at hm hk hlt] at hi'
        cases hi'
        exact ha i hlt
    rw [Bool.eq_iff_iff]
    simp only [fits, hcm, hc, decide_true, Bool.true_and, Bool.and_eq_true, fitTo_iff, fitAt]
    rw [key (by decide), key (by decide), key (by decide), key (by decide)]
    constructor
    · intro ⟨h1, h2, h3, h4⟩ j _ hj
      exact ⟨h1 j (by omega), h2 j (by omega), h3 j (by omega), h4 j (by omega)⟩
    · intro hh
      exact ⟨fun i hi => (hh i (by omega) (by omega)).1, fun i hi => (hh i (by omega) (by omega)).2.1, fun i hi => (hh i (by omega) (by omega)).2.2.1, fun i hi => (hh i (by omega) (by omega)).2.2.2⟩
  · have hcm : ¬ checkModels b.f [m] = 0 := fun hh => hc ((check1 h).1 hh)
    simp [fits, hc, hcm]
theorem L_RFits {b : Bed} {m : Mdl} (h : Mv b m) : ∀ (k i : Nat), i + k = b.n →
    WL T [2, 3, 5] false f_ref05_Fits_l8 [(2, .cref [.int .i64 b.f.x, .int .i64 b.f.y, .int .i64 b.f.z, .int .i64 b.f.k, .lst b.tab.length (b.tab.flatMap Rw.enc), .int .i64 b.stiff, .int .i64 b.lift, .int .i64 b.deep, .lst b.wells.length (b.wells.flatMap Bore.enc)]), (3, .cref [.str m.name, .lst m.vals.length (m.vals.flatMap intE)]), (5, .int .i64 i)] σ
      (fun x e σ' => σ' = σ ∧ if fitTo b m i k then x = .exit 0 else x = .ret ∧ get e 4 = .bool false)
  | 0, i, hi => by
    refine WL_step e_ref05_Fits_l8 ?_
    have hS := fun σ => C_RSize' (σ := σ) h.bv.fv
    have hsz : b.f.size = (b.n : Int) := h.bv.sz
    rw [hsz] at hS
    have h1 : ¬ i < b.n := by omega
    simp [-List.length_flatMap, -List.map_take, eF, hS, h1, fitTo, cl_rw, cl_bore, cl_int]
  | k + 1, i, hi => by
    refine WL_step e_ref05_Fits_l8 ?_
    have hS := fun σ => C_RSize' (σ := σ) h.bv.fv
    have hsz : b.f.size = (b.n : Int) := h.bv.sz
    rw [hsz] at hS
    have hn := h.bv.n
    have h1 : i < b.n := by omega
    have h4 := wnext h1 (by omega)
    have v0 := fun σ => C_RValue (σ := σ) h (k := 0) (i := i) (by decide) h1
    have v1 := fun σ => C_RValue (σ := σ) h (k := 1) (i := i) (by decide) h1
    have v2 := fun σ => C_RValue (σ := σ) h (k := 2) (i := i) (by decide) h1
    have v3 := fun σ => C_RValue (σ := σ) h (k := 3) (i := i) (by decide) h1
    simp only [show ((0 : Nat) : Int) = 0 from rfl, show ((1 : Nat) : Int) = 1 from rfl, show ((2 : Nat) : Int) = 2 from rfl, show ((3 : Nat) : Int) = 3 from rfl] at v0 v1 v2 v3
    have ih := L_RFits h k (i + 1) (by omega)
    rw [fitTo, fitAt]
    cases c0 : inn (kindAt b m 0 i) 1000 100000
    · simp [-List.length_flatMap, -List.map_take, eF, hS, h1, h4, v0, C_In1, c0, cl_rw, cl_bore, cl_int]
    cases c1 : inn (kindAt b m 1 i) 0 1000
    · simp [-List.length_flatMap, -List.map_take, eF, hS, h1, h4, v0, v1, C_In1, c0, c1, cl_rw, cl_bore, cl_int]
    cases c2 : inn (kindAt b m 2 i) 0 3000
    · simp [-List.length_flatMap, -List.map_take, eF, hS, h1, h4, v0, v1, v2, C_In1, c0, c1, c2, cl_rw, cl_bore, cl_int]
    cases c3 : inn (kindAt b m 3 i) 0 1000
    · simp [-List.length_flatMap, -List.map_take, eF, hS, h1, h4, v0, v1, v2, v3, C_In1, c0, c1, c2, c3, cl_rw, cl_bore, cl_int]
    simp [-List.length_flatMap, -List.map_take, eF, hS, h1, h4, v0, v1, v2, v3, C_In1, c0, c1, c2, c3, cl_rw, cl_bore, cl_int]
    exact WL.to ih (by simp) rfl fun x e σ' hh => by simpa using hh
theorem C_RFits {b : Bed} {m : Mdl} (h : Bv b) (hn : m.name.length ≤ 9223372036854775807) (hl : m.vals.length ≤ 9223372036854775807) : lim T (.call false i_ref05_Fits [.agg [.int .i64 b.f.x, .int .i64 b.f.y, .int .i64 b.f.z, .int .i64 b.f.k, .lst b.tab.length (b.tab.flatMap Rw.enc), .int .i64 b.stiff, .int .i64 b.lift, .int .i64 b.deep, .lst b.wells.length (b.wells.flatMap Bore.enc)], .agg [.str m.name, .lst m.vals.length (m.vals.flatMap intE)]] σ) = some (.val (.bool (fits b m)) σ) := by
  refine call_of T_ref05_Fits e_ref05_Fits rfl ?_
  have hM := fun σ => C_RModel (σ := σ) (m := m) h.fv hn hl
  rw [fits_eq h]
  by_cases hc : b.f.model m = 0
  · have hm := Mv.of h ((check1 h).2 hc)
    simp [-List.length_flatMap, -List.map_take, eF, hM, hc, cl_rw, cl_bore, cl_int]
    refine WL.to (L_RFits (σ := [] :: σ) hm b.n 0 (by omega)) (by simp) (by simp) ?_
    rintro x e σ' ⟨rfl, hh⟩
    cases hf : fitTo b m 0 b.n
    · simp [hf] at hh
      simp [hh, hc]
    · simp [hf] at hh
      simp [-List.length_flatMap, -List.map_take, eF, hh, hc]
  · simp [-List.length_flatMap, -List.map_take, eF, hM, hc, cl_rw, cl_bore, cl_int]
def mfault (b : Bed) (l : List Mdl) : Int := if inn l.length 1 40 then (if b.f.models l = 0 then (if allB l (fits b) then 0 else 1) else 1) else 3
theorem L_RMF {b : Bed} {l : List Mdl} (h : Bv b) (hs : ∀ m ∈ l, m.name.length ≤ 9223372036854775807 ∧ m.vals.length ≤ 9223372036854775807) (hl : l.length ≤ 9223372036854775807) : ∀ (k i : Nat), i + k = l.length →
    WL T [1, 2, 5] false f_ref05_ModelsFault_l10 [(1, .lst l.length (l.flatMap Mdl.enc)), (2, .cref [.int .i64 b.f.x, .int .i64 b.f.y, .int .i64 b.f.z, .int .i64 b.f.k, .lst b.tab.length (b.tab.flatMap Rw.enc), .int .i64 b.stiff, .int .i64 b.lift, .int .i64 b.deep, .lst b.wells.length (b.wells.flatMap Bore.enc)]), (5, .int .i64 i)] σ
      (fun x e σ' => σ' = σ ∧ if allB (l.drop i) (fits b) then x = .exit 0 else x = .ret ∧ get e 4 = .int .i64 1)
  | 0, i, hi => by
    refine WL_step e_ref05_ModelsFault_l10 ?_
    have h1 : ¬ i < l.length := by omega
    have h2 : l.drop i = [] := List.drop_eq_nil_of_le (by omega)
    simp [-List.length_flatMap, -List.map_take, eF, h1, h2, allB]
  | k + 1, i, hi => by
    refine WL_step e_ref05_ModelsFault_l10 ?_
    have h1 : i < l.length := by omega
    obtain ⟨m, hm⟩ : ∃ m, l[i]? = some m := ⟨_, List.getElem?_eq_getElem h1⟩
    have h2 := mdlE_at hm
    have h4 := wnext h1 (by omega)
    have h5 := drop_at hm
    obtain ⟨hs1, hs2⟩ := hs m (List.mem_of_getElem? hm)
    have hC := fun σ => C_RFits (σ := σ) h hs1 hs2
    have ih := L_RMF h hs hl k (i + 1) (by omega)
    rw [h5, allB_cons]
    cases hc : fits b m
    · simp [-List.length_flatMap, -List.map_take, eF, h1, h2, h4, hC, hc, cl_rw, cl_bore, cl_int]
    · simp [-List.length_flatMap, -List.map_take, eF, h1, h2, h4, hC, hc, cl_rw, cl_bore, cl_int]
      exact WL.to ih (by simp) rfl fun x e σ' hh => by simpa [hc] using hh
theorem C_RMF {b : Bed} {l : List Mdl} (h : Bv b) (hs : ∀ m ∈ l, m.name.length ≤ 9223372036854775807 ∧ m.vals.length ≤ 9223372036854775807) (hl : l.length ≤ 9223372036854775807) :
    lim T (.call false i_ref05_ModelsFault [.agg [.int .i64 b.f.x, .int .i64 b.f.y, .int .i64 b.f.z, .int .i64 b.f.k, .lst b.tab.length (b.tab.flatMap Rw.enc), .int .i64 b.stiff, .int .i64 b.lift, .int .i64 b.deep, .lst b.wells.length (b.wells.flatMap Bore.enc)], .lst l.length (l.flatMap Mdl.enc)] σ) = some (.val (.int .i64 (mfault b l)) σ) := by
  refine call_of T_ref05_ModelsFault e_ref05_ModelsFault rfl ?_
  unfold mfault
  have hM := fun σ => C_RModels (σ := σ) h.fv hs hl
  by_cases h1 : l.length < 1
  · have h0 : l = [] := List.length_eq_zero_iff.1 (by omega)
    subst h0
    simp [-List.length_flatMap, -List.map_take, eF, inn, cl_rw, cl_bore, cl_int]
  by_cases h2 : 40 < l.length
  · have hi : inn l.length 1 40 = false := by simp [inn]; omega
    simp [-List.length_flatMap, -List.map_take, eF, hi, show ¬ (l.length : Int) < 1 by omega, show (40 : Int) < l.length by omega, cl_rw, cl_bore, cl_int]
  have hi : inn l.length 1 40 = true := inn_iff.2 (by omega)
  have hne : l ≠ [] := fun h => h1 (by rw [h]; decide)
  by_cases h3 : b.f.models l = 0
  · simp [-List.length_flatMap, -List.map_take, eF, hi, show ¬ (l.length : Int) < 1 by omega, show ¬ (40 : Int) < l.length by omega, hne, hM, h3, cl_rw, cl_bore, cl_int]
    refine WL.to (L_RMF (σ := [] :: σ) h hs hl l.length 0 (by omega)) (by simp) (by simp) ?_
    rintro x e σ' ⟨rfl, hh⟩
    simp only [List.drop_zero] at hh
    cases hc : allB l (fits b)
    · simp [hc] at hh
      simp [hh, hi, h3]
    · simp [hc] at hh
      simp [-List.length_flatMap, -List.map_take, eF, hh, hi, h3]
  · simp [-List.length_flatMap, -List.map_take, eF, hi, show ¬ (l.length : Int) < 1 by omega, show ¬ (40 : Int) < l.length by omega, hne, hM, h3, cl_rw, cl_bore, cl_int]
def runOk (b : Bed) (l : List Mdl) (plan : List (List Int)) : Bool := b.valid && (decide (l.length ≤ 4) && (decide (mfault b l = 0) && (decide (plan.length ≤ 6) && decide (planE b plan = 0))))
theorem C_run {b : Bed} {l : List Mdl} {plan : List (List Int)} (h1 : b.tab.length ≤ 9223372036854775807) (h2 : b.wells.length ≤ 9223372036854775807) (hs : ∀ m ∈ l, m.name.length ≤ 9223372036854775807 ∧ m.vals.length ≤ 9223372036854775807) (hl : l.length ≤ 9223372036854775807) (hp : plan.length ≤ 9223372036854775807) (hr : ∀ l ∈ plan, l.length ≤ 9223372036854775807) :
    lim T (.call false i_top_run [.agg [.int .i64 b.f.x, .int .i64 b.f.y, .int .i64 b.f.z, .int .i64 b.f.k, .lst b.tab.length (b.tab.flatMap Rw.enc), .int .i64 b.stiff, .int .i64 b.lift, .int .i64 b.deep, .lst b.wells.length (b.wells.flatMap Bore.enc)], .lst l.length (l.flatMap Mdl.enc), .lst plan.length (plan.flatMap inL)] σ) = some (.val (.bool (runOk b l plan)) σ) := by
  refine call_of T_top_run e_top_run rfl ?_
  have hB := fun σ => C_RBed (σ := σ) h1 h2
  unfold runOk
  cases c1 : b.valid
  · simp [-List.length_flatMap, -List.map_take, eF, hB, c1, cl_rw, cl_bore, cl_int]
  have hb := Bv.of c1
  have hM := fun σ => C_RMF (σ := σ) hb hs hl
  have hP := fun σ => C_RPlan (σ := σ) (b := b) hp hr
  by_cases c2 : l.length ≤ 4
  rotate_left
  · simp [-List.length_flatMap, -List.map_take, eF, hB, c1, c2, show ¬ (l.length : Int) ≤ 4 by omega, cl_rw, cl_bore, cl_int]
  by_cases c3 : mfault b l = 0
  rotate_left
  · simp [-List.length_flatMap, -List.map_take, eF, hB, c1, c2, show (l.length : Int) ≤ 4 by omega, hM, c3, cl_rw, cl_bore, cl_int]
  by_cases c4 : plan.length ≤ 6
  rotate_left
  · simp [-List.length_flatMap, -List.map_take, eF, hB, c1, c2, show (l.length : Int) ≤ 4 by omega, hM, c3, c4, show ¬ (plan.length : Int) ≤ 6 by omega, cl_rw, cl_bore, cl_int]
  by_cases c5 : planE b plan = 0 <;> simp [-List.length_flatMap, -List.map_take, eF, hB, c1, c2, show (l.length : Int) ≤ 4 by omega, hM, c3, c4, show (plan.length : Int) ≤ 6 by omega, hP, c5, cl_rw, cl_bore, cl_int]
end Go.Proofs.YtehandllpmlcoaaGreat

/-
  Beds, models and plans in new memory.
-/
set_option linter.unusedVariables false
set_option linter.unusedSimpArgs false
namespace Go.Proofs.YtehandllpmlcoaaGreat
open Go Go.Abs Go.Rock
variable {σ : Stack}

theorem rw_len (l : List Rw) : (l.flatMap Rw.enc).length = l.length * 5 := flat_len (f := Rw.enc) (w := 5) (fun _ => rfl) l
theorem bore_len (l : List Bore) : (l.flatMap Bore.enc).length = l.length * 3 := flat_len (f := Bore.enc) (w := 3) (fun _ => rfl) l
theorem mdl_len (l : List Mdl) : (l.flatMap Mdl.enc).length = l.length * 2 := flat_len (f := Mdl.enc) (w := 2) (fun _ => rfl) l
theorem cl_mdl (l : List Mdl) : D.cleanL (l.flatMap Mdl.enc) = true := k_clean (fun x => by simp [D.clean, cl_int]) l
theorem L_Table {t : List Rw} (ht : t.length ≤ 20) : ∀ (n i : Nat), i + n = t.length →
    WL T [0, 3, 4] false f_law01_Table_l6 [(0, .lst t.length (t.flatMap Rw.enc)), (3, .sl σ.length 0 i 0 i 5), (4, .int .i64 i)] ([.cells i ((t.take i).flatMap Rw.enc)] :: σ)
      (fun x e σ' => x = .exit 0 ∧ get e 3 = .sl σ.length 0 t.length 0 t.length 5 ∧ σ' = [.cells t.length (t.flatMap Rw.enc)] :: σ)
  | 0, i, hi => by
    refine WL_step e_law01_Table_l6 ?_
    obtain rfl : i = t.length := by omega
    simp [-List.length_flatMap, -List.map_take, eF]
  | n + 1, i, hi => by
    refine WL_step e_law01_Table_l6 ?_
    have h1 : i < t.length := by omega
    obtain ⟨r, hr⟩ : ∃ r, t[i]? = some r := ⟨_, List.getElem?_eq_getElem h1⟩
    have h2 := flat_at (f := Rw.enc) (w := 5) (fun _ => rfl) hr
    have h4 := wnext h1 (by omega)
    have ih := L_Table ht n (i + 1) (by omega)
    have a3 := flat_snoc (f := Rw.enc) hr
    have a4 := rw_len (t.take i)
    rw [List.length_take, Nat.min_eq_left (by omega)] at a4
    have a6 : ((t.take i).flatMap Rw.enc).take (i * 5) = (t.take i).flatMap Rw.enc := List.take_of_length_le (by omega)
    have h7 : (i + 1) * 40 ≤ room := by unfold room; omega
    simp [-List.length_flatMap, -List.map_take, eF, h1, h2, h4, a4, a6, h7]
    exact WL.to ih (by simp) (by simp [← a3]) fun x e σ hh => hh
theorem C_TableK {t : List Rw} (ht : t.length ≤ 20) : lim T (.call true i_law01_Table [.lst t.length (t.flatMap Rw.enc)] ([] :: σ)) = some (.val (.sl σ.length 0 t.length 0 t.length 5) ([.cells t.length (t.flatMap Rw.enc)] :: σ)) := by
  refine call_kp T_law01_Table e_law01_Table rfl ?_
  simp [-List.length_flatMap, -List.map_take, eF]
  refine WL.to (L_Table (σ := σ) ht t.length 0 (by omega)) (by simp) (by simp) ?_
  rintro x e σ' ⟨rfl, g3, rfl⟩
  simp [-List.length_flatMap, -List.map_take, eF, g3]
theorem C_LField {f : Fld} : lim T (.call false i_law02_Field [.agg [.int .i64 f.x, .int .i64 f.y, .int .i64 f.z, .int .i64 f.k]] σ) = some (.val (.agg [.int .i64 f.x, .int .i64 f.y, .int .i64 f.z, .int .i64 f.k]) σ) := by
  refine call_of T_law02_Field e_law02_Field rfl ?_
  simp [-List.length_flatMap, -List.map_take, eF]
def bdD (b : Bed) (L i : Nat) : List D := [.int .i64 b.f.x, .int .i64 b.f.y, .int .i64 b.f.z, .int .i64 b.f.k, .sl L 0 b.tab.length 0 b.tab.length 5, .int .i64 b.stiff, .int .i64 b.lift, .int .i64 b.deep, .sl L 1 i 0 i 3]
theorem L_Bed {b : Bed} (hw : b.wells.length ≤ 8) : ∀ (n i : Nat), i + n = b.wells.length →
    WL T [1, 2, 3, 4] false f_law05_Bed_l6 [(1, .cref [.int .i64 b.f.x, .int .i64 b.f.y, .int .i64 b.f.z, .int .i64 b.f.k, .lst b.tab.length (b.tab.flatMap Rw.enc), .int .i64 b.stiff, .int .i64 b.lift, .int .i64 b.deep, .lst b.wells.length (b.wells.flatMap Bore.enc)]), (2, .own 0 [.int .i64 0, .int .i64 0, .int .i64 0, .int .i64 0, .nils, .int .i64 0, .int .i64 0, .int .i64 0, .nils]), (3, .own 0 (bdD b σ.length i)), (4, .int .i64 i)] ([.cells b.tab.length (b.tab.flatMap Rw.enc), .cells i ((b.wells.take i).flatMap Bore.enc)] :: σ)
      (fun x e σ' => x = .exit 0 ∧ get e 2 = .own 0 [.int .i64 0, .int .i64 0, .int .i64 0, .int .i64 0, .nils, .int .i64 0, .int .i64 0, .int .i64 0, .nils] ∧ get e 3 = .own 0 (bdD b σ.length b.wells.length) ∧ σ' = [.cells b.tab.length (b.tab.flatMap Rw.enc), .cells b.wells.length (b.wells.flatMap Bore.enc)] :: σ)
  | 0, i, hi => by
    refine WL_step e_law05_Bed_l6 ?_
    obtain rfl : i = b.wells.length := by omega
    simp [-List.length_flatMap, -List.map_take, eF, bdD]
  | n + 1, i, hi => by
    refine WL_step e_law05_Bed_l6 ?_
    have h1 : i < b.wells.length := by omega
    obtain ⟨r, hr⟩ : ∃ r, b.wells[i]? = some r := ⟨_, List.getElem?_eq_getElem h1⟩
    have h2 := boreE_at hr
    have h4 := wnext h1 (by omega)
    have ih := L_Bed hw n (i + 1) (by omega)
    have a3 := flat_snoc (f := Bore.enc) hr
    have a4 := bore_len (b.wells.take i)
    rw [List.length_take, Nat.min_eq_left (by omega)] at a4
    have a6 : ((b.wells.take i).flatMap Bore.enc).take (i * 3) = (b.wells.take i).flatMap Bore.enc := List.take_of_length_le (by omega)
    have h7 : (i + 1) * 24 ≤ room := by unfold room; omega
    simp only [bdD] at ih ⊢
    simp [-List.length_flatMap, -List.map_take, eF, h1, h2, h4, a4, a6, h7]
    exact WL.to ih (by simp) (by simp [← a3]) fun x e σ hh => hh
theorem C_LBed {b : Bed} (ht : b.tab.length ≤ 20) (hw : b.wells.length ≤ 8) (hσ : σ ≠ []) : lim T (.call false i_law05_Bed [.agg [.int .i64 b.f.x, .int .i64 b.f.y, .int .i64 b.f.z, .int .i64 b.f.k, .lst b.tab.length (b.tab.flatMap Rw.enc), .int .i64 b.stiff, .int .i64 b.lift, .int .i64 b.deep, .lst b.wells.length (b.wells.flatMap Bore.enc)]] σ) = some (.val (.agg [.int .i64 b.f.x, .int .i64 b.f.y, .int .i64 b.f.z, .int .i64 b.f.k, .lst b.tab.length (b.tab.flatMap Rw.enc), .int .i64 b.stiff, .int .i64 b.lift, .int .i64 b.deep, .lst b.wells.length (b.wells.flatMap Bore.enc)]) σ) := by
  refine call_of T_law05_Bed e_law05_Bed rfl ?_
  have hT := fun σ => C_TableK (σ := σ) ht
  have hF := fun σ => C_LField (σ := σ) (f := b.f)
  simp [-List.length_flatMap, -List.map_take, eF, hF, hT, cl_rw, cl_bore]
  refine WL.to (L_Bed (σ := σ) hw b.wells.length 0 (by omega)) (by simp [bdD]) (by simp) ?_
  rintro x e σ' ⟨rfl, g2, g3, rfl⟩
  simp [-List.length_flatMap, -List.map_take, eF, g2, g3, bdD]
  rw [frz_agg (by simp) (by omega)]
  have hi : ∀ (k : IntKind) (n : Int) (S : Stack), frz (σ.length - 1) (16 - 1) (.int k n) S = (.int k n, S) := fun k n S => frz_clean rfl (by omega)
  simp only [frzL_cons, frzL_nil, hi]
  rw [k_out (f := Rw.enc) (by decide) (fun _ => rfl) (fun x => by simp) hσ (by simp)]
  simp only [List.set_cons_succ, List.set_cons_zero]
  rw [k_out (f := Bore.enc) (by decide) (fun _ => rfl) (fun x => by simp) hσ (by simp)]
  exact ⟨_, rfl⟩
theorem C_LModel {m : Mdl} (hl : m.vals.length ≤ 1000) (hσ : σ ≠ []) : lim T (.call false i_law02_Model [.agg [.str m.name, .lst m.vals.length (m.vals.flatMap intE)]] σ) = some (.val (.agg [.str m.name, .lst m.vals.length (m.vals.flatMap intE)]) σ) := by
  refine call_of T_law02_Model e_law02_Model rfl ?_
  have h8 : m.vals.length * 8 ≤ room := by unfold room; omega
  have i1 := int_len m.vals
  have hfz := k_frz (f := intE) (w := 1) (fun _ => rfl) (fun x => by simp) (l := m.vals) (j := 0) (v := 1) (bs := [.cells 1 (m.vals.flatMap intE)]) (σ := σ) hσ rfl
  simp [-List.length_flatMap, -List.map_take, eF, cl_int, h8, i1, hfz]
theorem L_Models {l : List Mdl} (hl : l.length ≤ 40) (hs : ∀ m ∈ l, m.vals.length ≤ 1000) : ∀ (n i : Nat), i + n = l.length →
    WL T [0, 3, 4] false f_law02_Models_l6 [(0, .lst l.length (l.flatMap Mdl.enc)), (3, .sl σ.length 0 i 0 i 2), (4, .int .i64 i)] ([.cells i ((l.take i).flatMap Mdl.enc)] :: σ)
      (fun x e σ' => x = .exit 0 ∧ get e 3 = .sl σ.length 0 l.length 0 l.length 2 ∧ σ' = [.cells l.length (l.flatMap Mdl.enc)] :: σ)
  | 0, i, hi => by
    refine WL_step e_law02_Models_l6 ?_
    obtain rfl : i = l.length := by omega
    simp [-List.length_flatMap, -List.map_take, eF]
  | n + 1, i, hi => by
    refine WL_step e_law02_Models_l6 ?_
    have h1 : i < l.length := by omega
    obtain ⟨r, hr⟩ : ∃ r, l[i]? = some r := ⟨_, List.getElem?_eq_getElem h1⟩
    have h2 := mdlE_at hr
    have h4 := wnext h1 (by omega)
    have hC := fun σ hσ => C_LModel (σ := σ) (m := r) (hs r (List.mem_of_getElem? hr)) hσ
    have ih := L_Models hl hs n (i + 1) (by omega)
    have a3 := flat_snoc (f := Mdl.enc) hr
    have a4 := mdl_len (l.take i)
    rw [List.length_take, Nat.min_eq_left (by omega)] at a4
    have a6 : ((l.take i).flatMap Mdl.enc).take (i * 2) = (l.take i).flatMap Mdl.enc := List.take_of_length_le (by omega)
    have h7 : (i + 1) * 40 ≤ room := by unfold room; omega
    simp [-List.length_flatMap, -List.map_take, eF, h1, h2, h4, hC, a4, a6, h7, D.clean, cl_int]
    exact WL.to ih (by simp) (by simp [← a3]) fun x e σ hh => hh
theorem C_LModels {l : List Mdl} (hl : l.length ≤ 40) (hs : ∀ m ∈ l, m.vals.length ≤ 1000) (hσ : σ ≠ []) : lim T (.call false i_law02_Models [.lst l.length (l.flatMap Mdl.enc)] σ) = some (.val (.lst l.length (l.flatMap Mdl.enc)) σ) := by
  refine call_of T_law02_Models e_law02_Models rfl ?_
  simp [-List.length_flatMap, -List.map_take, eF]
  refine WL.to (L_Models (σ := σ) hl hs l.length 0 (by omega)) (by simp) (by simp) ?_
  rintro x e σ' ⟨rfl, g3, rfl⟩
  simp [-List.length_flatMap, -List.map_take, eF, g3]
  rw [k_out (f := Mdl.enc) (by decide) (fun _ => rfl) (fun x => by simp [D.clean, cl_int]) hσ (by simp)]
  simp
end Go.Proofs.YtehandllpmlcoaaGreat

/-
  Play, Pressures.
-/
set_option linter.unusedVariables false
set_option linter.unusedSimpArgs false
namespace Go.Proofs.YtehandllpmlcoaaGreat
open Go Go.Abs Go.Rock
variable {σ : Stack}

theorem X_caughtNo {l i v off : Nat} : lim T (.dcall i_rock_caught [.ref l i v off] none σ) = some (.val (.tup []) σ) := by
  refine dcall_of T_rock_caught e_rock_caught rfl (by simp [-List.length_flatMap, -List.map_take, eF, afterRcv]; exact ⟨rfl, rfl⟩) ?_
  simp [-List.length_flatMap, -List.map_take, eF]
theorem X_caught {F : List Abs.Blk} (hF : F = [.cells 0 [.int .i64 0]]) : lim T (.dcall i_rock_caught [.ref σ.length 0 0 0] (some (.ifc 205 (.agg []))) (F :: σ)) = some (.val (.tup []) ([.cells 0 [.int .i64 9]] :: σ)) := by
  subst hF
  refine dcall_of T_rock_caught e_rock_caught rfl (by simp [-List.length_flatMap, -List.map_take, eF, afterRcv]; exact ⟨rfl, rfl⟩) ?_
  simp [-List.length_flatMap, -List.map_take, eF]
theorem firstE_zero {α : Type} {f : α → Int} : ∀ {l : List α}, firstE f l = 0 → ∀ x ∈ l, f x = 0
  | [], _, x, hx => by cases hx
  | a :: l, h, x, hx => by
    simp only [firstE] at h
    split at h
    · rename_i ha
      rcases List.mem_cons.1 hx with rfl | hx
      · exact ha
      · exact firstE_zero h x hx
    · rename_i ha; exact absurd h ha
theorem planE_zero {b : Bed} {plan : List (List Int)} (h : planE b plan = 0) : plan.length ≤ 200 ∧ ∀ r ∈ plan, Rv b r := by
  unfold planE at h
  split at h
  · cases h
  · exact ⟨by omega, fun r hr => Rv.of (firstE_zero h r hr)⟩
theorem planE_pos {b : Bed} {plan : List (List Int)} : 0 ≤ planE b plan ∧ planE b plan ≤ 3 := by
  have key : ∀ l : List (List Int), 0 ≤ firstE (ratesE b) l ∧ firstE (ratesE b) l ≤ 3 := by
    intro l
    induction l with
    | nil => simp [firstE]
    | cons a l ih =>
      simp only [firstE]
      split
      · exact ih
      · unfold ratesE; repeat' split
        all_goals omega
  unfold planE
  split
  · omega
  · exact key plan
/-- What Play answers. -/
def playE (b : Bed) (m : Mdl) (plan : List (List Int)) : Int := if Bd b m then (if planE b plan = 0 then (match Rock.run b m plan with | some _ => 0 | none => 9) else planE b plan) else 1
def playD (b : Bed) (m : Mdl) (plan : List (List Int)) : D := if playE b m plan = 0 then (match Rock.run b m plan with | some (ss, ys) => .agg [.lst ss.length (ss.flatMap stL), .lst ys.length (ys.flatMap stL)] | none => .agg [.nils, .nils]) else .agg [.nils, .nils]
theorem C_Play {b : Bed} {m : Mdl} {plan : List (List Int)} {wq : D} (hwq : wq.blur = .lst b.wells.length (b.wells.flatMap Bore.enc)) (h1 : b.tab.length ≤ 1000000000) (h2 : b.wells.length ≤ 1000000000) (hn : m.name.length ≤ 1000000000) (hl : m.vals.length ≤ 1000000000) (hp : plan.length ≤ 1000000000) (hs : ∀ l ∈ plan, l.length ≤ 1000000000) (hσ : σ ≠ []) :
    lim T (.call false i_rock_Play [.agg [.int .i64 b.f.x, .int .i64 b.f.y, .int .i64 b.f.z, .int .i64 b.f.k, .lst b.tab.length (b.tab.flatMap Rw.enc), .int .i64 b.stiff, .int .i64 b.lift, .int .i64 b.deep, wq], .agg [.str m.name, .lst m.vals.length (m.vals.flatMap intE)], .lst plan.length (plan.flatMap inL)] σ) = some (.val (.tup [playD b m plan, .int .i64 (playE b m plan)]) σ) := by
  have hP := fun σ => C_plan (σ := σ) (b := b) hp hs
  cases hb : Bd b m
  · have hE : playE b m plan = 1 := by simp [playE, hb]
    have hD : playD b m plan = .agg [.nils, .nils] := by simp [playD, hE]
    rw [hD, hE]
    refine call_of T_rock_Play e_rock_Play rfl ?_
    obtain ⟨d, hB, hd1, hd2⟩ := C_bedNo h1 h2 hn hl hb (σ := [.cells 0 [.int .i64 0]] :: σ)
    simp [-List.length_flatMap, -List.map_take, eF, hwq, hB, hd1, cl_rw, cl_bore, cl_int]
  · have hB := fun σ => C_bed (σ := σ) h1 h2 hn hl hb
    by_cases hq : planE b plan = 0
    · obtain ⟨p1, p2⟩ := planE_zero hq
      simp only [Bd, Bool.and_eq_true] at hb
      have hf : Fv b m := Fv.of (by simp [Bd, hb])
      have hb' : Bd b m = true := by simp [Bd, hb]
      refine call_dfr T_rock_Play e_rock_Play rfl rfl ?_
      cases hrun : Rock.run b m plan with
      | none =>
        have hE : playE b m plan = 9 := by simp [playE, hb', hq, hrun]
        have hD : playD b m plan = .agg [.nils, .nils] := by simp [playD, hE]
        have hR := fun σ => C_runNo (σ := σ) hf p1 p2 hrun
        have hX : dcallV T (.fn i_rock_caught [] []) [.ref σ.length 0 0 0] (some (.ifc 205 (.agg []))) ([.cells 0 [.int .i64 0]] :: σ) = some ([.cells 0 [.int .i64 9]] :: σ) := dcallV_fn (X_caught rfl)
        rw [hD, hE]
        simp [-List.length_flatMap, -List.map_take, eF, toD, endD, hwq, hB, hP, hq, hR, cl_rw, cl_bore, cl_int]
        rw [WC_eq e_rock_Play_b8]
        simp [-List.length_flatMap, -List.map_take, eF, toD, endD, hX, hR, cl_rw, cl_bore, cl_int]
      | some p =>
        obtain ⟨ss, ys⟩ := p
        have hE : playE b m plan = 0 := by simp [playE, hb', hq, hrun]
        have hD : playD b m plan = .agg [.lst ss.length (ss.flatMap stL), .lst ys.length (ys.flatMap stL)] := by simp [playD, hE, hrun]
        have hX : dcallV T (.fn i_rock_caught [] []) [.ref σ.length 0 0 0] none ([.cells 0 [.int .i64 0]] :: σ) = some ([.cells 0 [.int .i64 0]] :: σ) := dcallV_fn X_caughtNo
        have hR := fun σ hσ => C_runOk (σ := σ) hf p1 p2 hσ hrun
        rw [hD, hE]
        simp [-List.length_flatMap, -List.map_take, eF, toD, endD, hwq, hB, hP, hq, hR, cl_rw, cl_bore, cl_int]
        rw [WC_eq e_rock_Play_b8]
        simp [-List.length_flatMap, -List.map_take, eF, toD, endD, hX, hR, cl_rw, cl_bore, cl_int]
        rw [frz_clean (by simp [D.clean, cl_st]) (by omega)]
        exact ⟨_, rfl⟩
    · have hE : playE b m plan = planE b plan := by simp [playE, hb, hq]
      have hD : playD b m plan = .agg [.nils, .nils] := by simp [playD, hE, hq]
      rw [hD, hE]
      refine call_of T_rock_Play e_rock_Play rfl ?_
      simp [-List.length_flatMap, -List.map_take, eF, hwq, hB, hP, hq, cl_rw, cl_bore, cl_int]
end Go.Proofs.YtehandllpmlcoaaGreat

/-
  The runs of all models; ranges.
-/
set_option linter.unusedVariables false
set_option linter.unusedSimpArgs false
namespace Go.Proofs.YtehandllpmlcoaaGreat
open Go Go.Abs Go.Rock
variable {σ : Stack}

/-! ### What the law knows of its arguments -/
structure Ok (b : Bed) (l : List Mdl) (plan : List (List Int)) : Prop where
  bv : Bv b
  valid : b.valid = true
  len : 1 ≤ l.length ∧ l.length ≤ 40
  models : b.f.models l = 0
  fit : ∀ m ∈ l, fits b m = true
  fv : ∀ m ∈ l, Fv b m
  short : ∀ m ∈ l, m.name.length ≤ 1000000000 ∧ m.vals.length ≤ 384
  pl : planE b plan = 0
  plen : plan.length ≤ 200
  rates : ∀ r ∈ plan, Rv b r
theorem name_b {b : Bed} {m : Mdl} (h : Bv b) (hf : fits b m = true) : m.name.length ≤ 16 := by
  rw [fits_eq h, Bool.and_eq_true, decide_eq_true_eq] at hf
  have hm := hf.1
  unfold Fld.model at hm
  split at hm
  · rename_i hn
    simp only [named, Bool.and_eq_true] at hn
    have := inn_iff.1 hn.2; omega
  · cases hm
theorem Ok.of {b : Bed} {l : List Mdl} {plan : List (List Int)} (h : runOk b l plan = true) : Ok b l plan := by
  simp only [runOk, Bool.and_eq_true, decide_eq_true_eq] at h
  obtain ⟨h1, h2, h3, h4, h5⟩ := h
  have hb := Bv.of h1
  unfold mfault at h3
  split at h3
  · rename_i hi
    split at h3
    · rename_i hm
      split at h3
      · rename_i hf
        have hfit : ∀ m ∈ l, fits b m = true := allB_iff.1 hf
        have hfv : ∀ m ∈ l, Fv b m := fun m hm => Fv.of (by simp [Bd, h1, hfit m hm])
        exact ⟨hb, h1, ⟨by have := inn_iff.1 hi; omega, by omega⟩, hm, hfit, hfv, fun m hm => ⟨by have := name_b hb (hfit m hm); omega, (hfv m hm).toMv.le.2⟩, h5, by omega, (planE_zero h5).2⟩
      · cases h3
    · cases h3
  · cases h3
theorem Ok.check {b : Bed} {l : List Mdl} {plan : List (List Int)} (h : Ok b l plan) : checkModels b.f l = 0 := by
  simp [checkModels, h.bv.fv, h.models]
theorem C_ready1 {b : Bed} {m : Mdl} (h : Bv b) (hn : m.name.length ≤ 1000000000) (hl : m.vals.length ≤ 1000000000) : lim T (.call false i_rock_ready_1 [.agg [.str m.name, .lst m.vals.length (m.vals.flatMap intE)], .cref [.int .i64 b.f.x, .int .i64 b.f.y, .int .i64 b.f.z, .int .i64 b.f.k, .lst b.tab.length (b.tab.flatMap Rw.enc), .int .i64 b.stiff, .int .i64 b.lift, .int .i64 b.deep, .lst b.wells.length (b.wells.flatMap Bore.enc)]] σ) = some (.val (.bool (fits b m)) σ) := by
  refine call_of T_rock_ready_1 e_rock_ready_1 rfl ?_
  have hC := fun σ => C_fits (σ := σ) (m := m) h hn hl
  simp [-List.length_flatMap, -List.map_take, eF, hC, cl_rw, cl_bore, cl_int]
theorem C_readyAll {b : Bed} {l : List Mdl} (h : Bv b) (hs : ∀ m ∈ l, m.name.length ≤ 1000000000 ∧ m.vals.length ≤ 1000000000) (hl : l.length ≤ 1000000000) :
    lim T (.call false i_rock_all_field_Model [.lst l.length (l.flatMap Mdl.enc), .fn i_rock_ready_1 [] [.cref [.int .i64 b.f.x, .int .i64 b.f.y, .int .i64 b.f.z, .int .i64 b.f.k, .lst b.tab.length (b.tab.flatMap Rw.enc), .int .i64 b.stiff, .int .i64 b.lift, .int .i64 b.deep, .lst b.wells.length (b.wells.flatMap Bore.enc)]]] σ) = some (.val (.bool (allB l (fits b))) σ) :=
  all_of (eltAgg 2 Mdl.enc (fun _ => rfl)) (f := i_rock_all_field_Model) (g := i_rock_all_field_Model_1) (h := i_slices_ContainsFunc_field_Model) (i := i_slices_IndexFunc_field_Model) (l := l) (p := fits b) rfl rfl rfl rfl (by omega) (Tests.fn fun x hx σ => C_ready1 h (hs x hx).1 (hs x hx).2) rfl
theorem C_ready {b : Bed} {l : List Mdl} {plan : List (List Int)} (h : Ok b l plan) :
    lim T (.call false i_rock_ready [.agg [.int .i64 b.f.x, .int .i64 b.f.y, .int .i64 b.f.z, .int .i64 b.f.k, .lst b.tab.length (b.tab.flatMap Rw.enc), .int .i64 b.stiff, .int .i64 b.lift, .int .i64 b.deep, .lst b.wells.length (b.wells.flatMap Bore.enc)], .lst l.length (l.flatMap Mdl.enc), .lst plan.length (plan.flatMap inL)] σ) = some (.val (.int .i64 0) σ) := by
  refine call_of T_rock_ready e_rock_ready rfl ?_
  have hs : ∀ m ∈ l, m.name.length ≤ 1000000000 ∧ m.vals.length ≤ 1000000000 := fun m hm => ⟨(h.short m hm).1, by have := (h.short m hm).2; omega⟩
  have hl := h.len
  have htab := h.bv.tab
  have ht : b.tab.length ≤ 1000000000 := by
    simp only [tabOk, Bool.and_eq_true] at htab
    have := inn_iff.1 htab.1; omega
  have h1 := fun σ => C_bvalid (σ := σ) (b := b) ht (by have := h.bv.wells; omega)
  have h2 := fun σ => C_CheckModels (σ := σ) (f := b.f) (l := l) hs (by omega)
  have h3 := fun σ => C_readyAll (σ := σ) (l := l) h.bv hs (by omega)
  have h4 := fun σ => C_plan (σ := σ) (b := b) (plan := plan) (by have := h.plen; omega) (fun r hr => by have := (h.rates r hr).len; have := h.bv.wells; omega)
  have hi : inn l.length 1 40 = true := inn_iff.2 (by omega)
  have ha : allB l (fits b) = true := allB_iff.2 h.fit
  rw [h.valid] at h1
  rw [h.check] at h2
  rw [ha] at h3
  rw [h.pl] at h4
  simp [-List.length_flatMap, -List.map_take, eF, h1, h2, h3, h4, C_rwithin, hi, cl_rw, cl_bore, cl_int]

/-! ### Runs -/
abbrev RunT := List (List Rock.Blk) × List (List Rock.Blk)
def runE (r : RunT) : List D := [.lst r.1.length (r.1.flatMap stL), .lst r.2.length (r.2.flatMap stL)]
theorem runE_len (l : List RunT) : (l.flatMap runE).length = l.length * 2 := flat_len (f := runE) (w := 2) (fun _ => rfl) l
theorem cl_run (l : List RunT) : D.cleanL (l.flatMap runE) = true := k_clean (fun x => by simp [runE, D.clean, cl_st]) l
def runsL (b : Bed) (plan : List (List Int)) : List Mdl → Option (List RunT)
  | [] => some []
  | m :: l => match Rock.run b m plan with
    | some r => (runsL b plan l).map (r :: ·)
    | none => none
def runsQ (n : Nat) (acc : List RunT) (σ : Stack) (r : Option (List RunT)) (x : Abs.Exit) (e : Env) (σ' : Stack) : Prop := match r with
  | some rs => x = .exit 0 ∧ get e 6 = .sl σ.length 0 n 0 n 2 ∧ σ' = [.cells n ((acc ++ rs).flatMap runE)] :: σ
  | none => x = .thr (.ifc 205 (.agg [])) ∧ ∃ seg, σ' = seg :: σ
theorem L_runs {b : Bed} {l : List Mdl} {plan : List (List Int)} (h : Ok b l plan) : ∀ (k i : Nat) (acc : List RunT), i + k = l.length → acc.length = i →
    WL T [2, 3, 6, 9, 10, 11] false f_rock_runs_l7 [(2, .lst plan.length (plan.flatMap inL)), (3, .cref [.int .i64 b.f.x, .int .i64 b.f.y, .int .i64 b.f.z, .int .i64 b.f.k, .lst b.tab.length (b.tab.flatMap Rw.enc), .int .i64 b.stiff, .int .i64 b.lift, .int .i64 b.deep, .lst b.wells.length (b.wells.flatMap Bore.enc)]), (6, .sl σ.length 0 i 0 i 2), (9, .lst l.length (l.flatMap Mdl.enc)), (10, .int .i64 l.length), (11, .int .i64 i)] ([.cells i (acc.flatMap runE)] :: σ)
      (runsQ l.length acc σ (runsL b plan (l.drop i)))
  | 0, i, acc, hi, ha => by
    refine WL_step e_rock_runs_l7 ?_
    obtain rfl : i = l.length := by omega
    have h2 : l.drop l.length = [] := List.drop_eq_nil_of_le (by omega)
    simp [-List.length_flatMap, -List.map_take, eF, h2, runsL, runsQ]
  | k + 1, i, acc, hi, ha => by
    refine WL_step e_rock_runs_l7 ?_
    have h1 : i < l.length := by omega
    obtain ⟨m, hm⟩ : ∃ m, l[i]? = some m := ⟨_, List.getElem?_eq_getElem h1⟩
    have hlen := h.len
    have h2 := mdlE_at hm
    have h4 := wnext h1 (by omega)
    have h5 := drop_at hm
    have hmem := List.mem_of_getElem? hm
    have a4 := runE_len acc
    rw [ha] at a4
    have a6 : (acc.flatMap runE).take (i * 2) = acc.flatMap runE := List.take_of_length_le (by omega)
    have h7 : (i + 1) * 48 ≤ room := by unfold room; omega
    have hp : plan.length ≤ 200 := by have := h.plen; omega
    rw [h5, runsL]
    cases hr : Rock.run b m plan with
    | none =>
      have hC := fun σ => C_runNo (σ := σ) (h.fv m hmem) hp h.rates hr
      simp [-List.length_flatMap, -List.map_take, eF, h1, h2, h4, hC, runsQ, cl_rw, cl_bore, cl_int]
    | some r =>
      obtain ⟨ss, ys⟩ := r
      have hC := fun σ hσ => C_runOk (σ := σ) (h.fv m hmem) hp h.rates hσ hr
      have ih := L_runs h k (i + 1) (acc ++ [(ss, ys)]) (by omega) (by simp [ha])
      simp [-List.length_flatMap, -List.map_take, eF, h1, h2, h4, hC, a4, a6, h7, cl_rw, cl_bore, cl_int, D.clean, cl_st]
      refine WL.to ih (by simp) (by simp [runE]) fun x e σ' hh => ?_
      cases hq : runsL b plan (l.drop (i + 1)) with
      | none => rw [hq] at hh; simpa [runsQ] using hh
      | some rs => rw [hq] at hh; simpa [runsQ] using hh
theorem C_runsOk {b : Bed} {l : List Mdl} {plan : List (List Int)} (h : Ok b l plan) (hσ : σ ≠ []) {rs : List RunT} (hr : runsL b plan l = some rs) (hl : rs.length = l.length) :
    lim T (.call false i_rock_runs [.agg [.int .i64 b.f.x, .int .i64 b.f.y, .int .i64 b.f.z, .int .i64 b.f.k, .lst b.tab.length (b.tab.flatMap Rw.enc), .int .i64 b.stiff, .int .i64 b.lift, .int .i64 b.deep, .lst b.wells.length (b.wells.flatMap Bore.enc)], .lst l.length (l.flatMap Mdl.enc), .lst plan.length (plan.flatMap inL)] σ) = some (.val (.lst rs.length (rs.flatMap runE)) σ) := by
  refine call_of T_rock_runs e_rock_runs rfl ?_
  simp [-List.length_flatMap, -List.map_take, eF, cl_rw, cl_bore, cl_int]
  refine WL.to (L_runs (σ := σ) h l.length 0 [] (by omega) rfl) (by simp) (by simp) ?_
  rw [List.drop_zero, hr]
  rintro x e σ' ⟨rfl, g6, rfl⟩
  simp [-List.length_flatMap, -List.map_take, eF, g6]
  rw [← hl, k_out (f := runE) (by decide) (fun _ => rfl) (fun x => by simp [runE, D.clean, cl_st]) hσ (by simp)]
  simp
theorem C_runsNo {b : Bed} {l : List Mdl} {plan : List (List Int)} (h : Ok b l plan) (hr : runsL b plan l = none) :
    lim T (.call false i_rock_runs [.agg [.int .i64 b.f.x, .int .i64 b.f.y, .int .i64 b.f.z, .int .i64 b.f.k, .lst b.tab.length (b.tab.flatMap Rw.enc), .int .i64 b.stiff, .int .i64 b.lift, .int .i64 b.deep, .lst b.wells.length (b.wells.flatMap Bore.enc)], .lst l.length (l.flatMap Mdl.enc), .lst plan.length (plan.flatMap inL)] σ) = some (.thr (.ifc 205 (.agg [])) σ) := by
  refine throws_of T_rock_runs e_rock_runs rfl ?_
  simp [-List.length_flatMap, -List.map_take, eF, cl_rw, cl_bore, cl_int]
  refine WL.to (L_runs (σ := σ) h l.length 0 [] (by omega) rfl) (by simp) (by simp) ?_
  rw [List.drop_zero, hr]
  rintro x e σ' ⟨rfl, seg, rfl⟩
  simp [D.clean]
theorem runsL_len {b : Bed} {plan : List (List Int)} : ∀ {l : List Mdl} {rs : List RunT}, runsL b plan l = some rs → rs.length = l.length ∧ ∀ (i : Nat) m, l[i]? = some m → ∃ r, rs[i]? = some r ∧ Rock.run b m plan = some r
  | [], rs, h => by simp only [runsL, Option.some.injEq] at h; subst h; simp
  | m :: l, rs, h => by
    simp only [runsL] at h
    cases hr : Rock.run b m plan with
    | none => rw [hr] at h; cases h
    | some r =>
      rw [hr] at h
      simp only [Option.map_eq_some_iff] at h
      obtain ⟨rs', h1, rfl⟩ := h
      obtain ⟨g1, g2⟩ := runsL_len h1
      refine ⟨by simp [g1], ?_⟩
      intro i m' hm'
      cases i with
      | zero => simp only [List.getElem?_cons_zero, Option.some.injEq] at hm'; subst hm'; exact ⟨r, rfl, hr⟩
      | succ i => simpa using g2 i m' (by simpa using hm')

/-! ### Ranges -/
def spanB {α : Type} (of : α → Int) : List α → Int × Int
  | [] => (0, 0)
  | x :: l => (x :: l).foldl (fun r y => (min r.1 (of y), max r.2 (of y))) (of x, of x)
theorem span_fold {α : Type} {of : α → Int} : ∀ (l : List α) (a c : Int), (∀ y ∈ l, (l.foldl (fun r y => (min r.1 (of y), max r.2 (of y))) (a, c)).1 ≤ of y ∧ of y ≤ (l.foldl (fun r y => (min r.1 (of y), max r.2 (of y))) (a, c)).2) ∧
    (l.foldl (fun r y => (min r.1 (of y), max r.2 (of y))) (a, c)).1 ≤ a ∧ c ≤ (l.foldl (fun r y => (min r.1 (of y), max r.2 (of y))) (a, c)).2
  | [], a, c => by simp
  | x :: l, a, c => by
    obtain ⟨h1, h2, h3⟩ := span_fold (of := of) l (min a (of x)) (max c (of x))
    simp only [List.foldl_cons]
    refine ⟨?_, by omega, by omega⟩
    intro y hy
    rcases List.mem_cons.1 hy with rfl | hy
    · omega
    · exact h1 y hy
theorem span_least {α : Type} {of : α → Int} {k : Int} : ∀ (l : List α) (a c : Int), k ≤ a → (∀ y ∈ l, k ≤ of y) → k ≤ (l.foldl (fun r y => (min r.1 (of y), max r.2 (of y))) (a, c)).1
  | [], a, c, h, _ => h
  | x :: l, a, c, h, hl => by
    simp only [List.foldl_cons]
    exact span_least l _ _ (by have := hl x (List.mem_cons_self ..); omega) fun y hy => hl y (List.mem_cons_of_mem _ hy)
theorem spanB_in {α : Type} {of : α → Int} {l : List α} {y : α} (hy : y ∈ l) : (spanB of l).1 ≤ of y ∧ of y ≤ (spanB of l).2 := by
  cases l with
  | nil => cases hy
  | cons x l => exact (span_fold (x :: l) (of x) (of x)).1 y hy
theorem spanB_least {α : Type} {of : α → Int} {k : Int} {l : List α} (hk : 0 ≤ k → l ≠ []) (hl : ∀ y ∈ l, 0 ≤ of y) : 0 ≤ (spanB of l).1 := by
  cases l with
  | nil => simp [spanB]
  | cons x l => exact span_least (x :: l) _ _ (hl x (List.mem_cons_self ..)) hl
def spanE (r : Int × Int) : List D := [.int .i64 r.1, .int .i64 r.2]
end Go.Proofs.YtehandllpmlcoaaGreat

/-
  What a tick may bring.
-/
set_option linter.unusedVariables false
set_option linter.unusedSimpArgs false
namespace Go.Proofs.YtehandllpmlcoaaGreat
open Go Go.Abs Go.Rock
variable {σ : Stack}

theorem C_ymass {x : Rock.Blk} : lim T (.call false i_rock_Yield_mass [.agg x.enc] σ) = some (.val (.int .i64 x.m) σ) := by
  refine call_of T_rock_Yield_mass e_rock_Yield_mass rfl ?_
  simp [-List.length_flatMap, -List.map_take, eF]
theorem C_ystain {x : Rock.Blk} : lim T (.call false i_rock_Yield_stain [.agg x.enc] σ) = some (.val (.int .i64 x.k) σ) := by
  refine call_of T_rock_Yield_stain e_rock_Yield_stain rfl ?_
  simp [-List.length_flatMap, -List.map_take, eF]
def rowAt (l : List (List Rock.Blk)) (t : Nat) : List Rock.Blk := (l[t]?).getD []
def ysL (rs : List RunT) (t w : Nat) : List Rock.Blk := rs.map fun r => blkAt (rowAt r.2 t) w
def prL (b : Bed) (l : List Mdl) (rs : List RunT) (t i : Nat) : List Int := List.zipWith (fun m r => pressure b m (rowAt r.1 (t + 1)) i) l rs
def bndE (rs : List RunT) (t w : Nat) : List D := spanE (spanB Blk.m (ysL rs t w)) ++ (spanE (spanB Blk.h (ysL rs t w)) ++ spanE (spanB Blk.k (ysL rs t w)))
def prE (b : Bed) (l : List Mdl) (rs : List RunT) (t i : Nat) : List D := spanE (spanB id (prL b l rs t i))
def foreE (b : Bed) (l : List Mdl) (rs : List RunT) (t : Nat) : List D := [.lst b.wells.length ((List.range b.wells.length).flatMap (bndE rs t)), .lst b.n ((List.range b.n).flatMap (prE b l rs t))]
structure Rs (b : Bed) (l : List Mdl) (n : Nat) (rs : List RunT) : Prop where
  len : rs.length = l.length
  ne : 1 ≤ l.length ∧ l.length ≤ 40
  n6 : n ≤ 200
  wells : b.wells.length ≤ 8
  bn : 1 ≤ b.n ∧ b.n ≤ 64
  all : ∀ r ∈ rs, Run b n r.1 r.2
  fv : ∀ m ∈ l, Fv b m
theorem row_y {b : Bed} {n : Nat} {r : RunT} (h : Run b n r.1 r.2) {t : Nat} (ht : t < n) : r.2[t]? = some (rowAt r.2 t) ∧ Yv b (rowAt r.2 t) := by
  have h1 : t < r.2.length := by rw [h.yl]; exact ht
  have h2 : r.2[t]? = some r.2[t] := List.getElem?_eq_getElem h1
  have h3 : rowAt r.2 t = r.2[t] := by simp [rowAt, h2]
  rw [h3]
  exact ⟨h2, h.yv _ (List.getElem_mem h1)⟩
theorem row_s {b : Bed} {n : Nat} {r : RunT} (h : Run b n r.1 r.2) {t : Nat} (ht : t ≤ n) : r.1[t]? = some (rowAt r.1 t) ∧ Sv b (rowAt r.1 t) := by
  have h1 : t < r.1.length := by rw [h.sl]; omega
  have h2 : r.1[t]? = some r.1[t] := List.getElem?_eq_getElem h1
  have h3 : rowAt r.1 t = r.1[t] := by simp [rowAt, h2]
  rw [h3]
  exact ⟨h2, h.sv _ (List.getElem_mem h1)⟩
theorem yv_at {b : Bed} {y : List Rock.Blk} (h : Yv b y) {w : Nat} (hw : w < b.wells.length) : y[w]? = some (blkAt y w) := by
  have h1 : w < y.length := by rw [h.len]; exact hw
  simp [blkAt, List.getElem?_eq_getElem h1]
theorem stL_at {l : List (List Rock.Blk)} {t : Nat} {s : List Rock.Blk} (h : l[t]? = some s) : ((l.flatMap stL).drop t).take 1 = [.lst s.length (s.flatMap Blk.enc)] := by
  have := flat_at (f := stL) (w := 1) (fun _ => rfl) h
  simpa [stL] using this
theorem runE_at {l : List RunT} {j : Nat} {r : RunT} (h : l[j]? = some r) : ((l.flatMap runE).drop (j * 2)).take 2 = [.lst r.1.length (r.1.flatMap stL), .lst r.2.length (r.2.flatMap stL)] :=
  flat_at (f := runE) (w := 2) (fun _ => rfl) h
end Go.Proofs.YtehandllpmlcoaaGreat

/-
  The forecasts.
-/
set_option linter.unusedVariables false
set_option linter.unusedSimpArgs false
namespace Go.Proofs.YtehandllpmlcoaaGreat
open Go Go.Abs Go.Rock
variable {σ : Stack}

@[simp] theorem frz_own2 {L l1 i1 u1 o1 m1 w1 l2 i2 u2 o2 m2 w2 : Nat} {S : Stack} (h1 : l1 ≤ L) (h2 : l2 ≤ L) : frz L 16 (.own 0 [.sl l1 i1 u1 o1 m1 w1, .sl l2 i2 u2 o2 m2 w2]) S = (.own 0 [.sl l1 i1 u1 o1 m1 w1, .sl l2 i2 u2 o2 m2 w2], S) := by
  have hc : D.clean (.own 0 [.sl l1 i1 u1 o1 m1 w1, .sl l2 i2 u2 o2 m2 w2]) = false := rfl
  rw [frz, if_neg (by rw [hc]; decide)]
  simp [frz_sl_low h1, frz_sl_low h2]
theorem bndE_len (rs : List RunT) (t : Nat) (l : List Nat) : (l.flatMap (bndE rs t)).length = l.length * 6 := flat_len (f := bndE rs t) (w := 6) (fun _ => rfl) l
theorem ysL_ne {b : Bed} {l : List Mdl} {n : Nat} {rs : List RunT} (h : Rs b l n rs) {t w : Nat} : ysL rs t w ≠ [] ∧ (ysL rs t w).length = rs.length := by
  have h1 := h.len; have h2 := h.ne
  refine ⟨fun hh => ?_, by simp [ysL]⟩
  have := congrArg List.length hh
  simp [ysL] at this; subst this; simp at h1; omega
end Go.Proofs.YtehandllpmlcoaaGreat

/-
  The forecasts: pressures; all ticks.
-/
set_option linter.unusedVariables false
set_option linter.unusedSimpArgs false
namespace Go.Proofs.YtehandllpmlcoaaGreat
open Go Go.Abs Go.Rock
variable {σ : Stack}

theorem prL_len {b : Bed} {l : List Mdl} {n : Nat} {rs : List RunT} (h : Rs b l n rs) {t i : Nat} : (prL b l rs t i).length = rs.length := by
  have := h.len
  simp [prL]; omega
theorem prE_len (b : Bed) (l : List Mdl) (rs : List RunT) (t : Nat) (is : List Nat) : (is.flatMap (prE b l rs t)).length = is.length * 2 := flat_len (f := prE b l rs t) (w := 2) (fun _ => rfl) is
theorem foreE_len (b : Bed) (l : List Mdl) (rs : List RunT) (ts : List Nat) : (ts.flatMap (foreE b l rs)).length = ts.length * 2 := flat_len (f := foreE b l rs) (w := 2) (fun _ => rfl) ts
theorem cl_bnd (rs : List RunT) (t : Nat) (ws : List Nat) : D.cleanL (ws.flatMap (bndE rs t)) = true := k_clean (fun x => by simp [bndE, spanE]) ws
theorem cl_pr (b : Bed) (l : List Mdl) (rs : List RunT) (t : Nat) (is : List Nat) : D.cleanL (is.flatMap (prE b l rs t)) = true := k_clean (fun x => by simp [prE, spanE]) is
theorem cl_fore (b : Bed) (l : List Mdl) (rs : List RunT) (ts : List Nat) : D.cleanL (ts.flatMap (foreE b l rs)) = true := k_clean (fun x => by simp [foreE, D.clean, cl_bnd, cl_pr]) ts
end Go.Proofs.YtehandllpmlcoaaGreat

/-
  A bed of one block that stays as it is: plain Lean.
-/
set_option linter.unusedVariables false
set_option linter.unusedSimpArgs false
namespace Go.Rock
open Go Go.Abs

def three : List Rw := [⟨100, 101, 419, 2676, 150⟩, ⟨150, 476, 632, 2746, 300⟩, ⟨200, 1555, 852, 2793, 600⟩]
def stillB : Bed := ⟨⟨1, 1, 1, 4⟩, three, 1, 0, 0, []⟩
def stillM : Mdl := ⟨[109], [1000, 0, 2, 0]⟩
theorem still_bd : Bd stillB stillM = true := by decide
theorem still_plan : planE stillB [[]] = 0 := by decide
theorem still_run : run stillB stillM [[]] = some ([[⟨1000, 2000, 0⟩], [⟨1000, 2000, 0⟩]], [[]]) := by rfl
end Go.Rock

/-
  Ahead; Play of a model that fits; plans.
-/
set_option linter.unusedVariables false
set_option linter.unusedSimpArgs false
namespace Go.Proofs.YtehandllpmlcoaaGreat
open Go Go.Abs Go.Rock
variable {σ : Stack}

theorem Rs.of {b : Bed} {l : List Mdl} {plan : List (List Int)} (h : Ok b l plan) {rs : List RunT} (hr : runsL b plan l = some rs) : Rs b l plan.length rs := by
  obtain ⟨h1, h2⟩ := runsL_len hr
  refine ⟨h1, h.len, h.plen, h.bv.wells, h.bv.n, ?_, h.fv⟩
  intro r hmem
  obtain ⟨i, hi⟩ := List.getElem?_of_mem hmem
  have hlt : i < l.length := by rw [← h1]; exact (List.getElem?_eq_some_iff.1 hi).1
  obtain ⟨m, hm⟩ : ∃ m, l[i]? = some m := ⟨_, List.getElem?_eq_getElem hlt⟩
  obtain ⟨r', h3, h4⟩ := h2 i m hm
  rw [hi] at h3
  cases h3
  exact Run.of (h.fv m (List.mem_of_getElem? hm)) h.rates h4
theorem X_caught1 {A : Abs.Blk} : lim T (.dcall i_rock_caught [.ref σ.length 1 0 0] (some (.ifc 205 (.agg []))) ([A, .cells 0 [.int .i64 0]] :: σ)) = some (.val (.tup []) ([A, .cells 0 [.int .i64 9]] :: σ)) := by
  refine dcall_of T_rock_caught e_rock_caught rfl (by simp [-List.length_flatMap, -List.map_take, eF, afterRcv]; exact ⟨rfl, rfl⟩) ?_
  simp [-List.length_flatMap, -List.map_take, eF]
theorem frz_pair {l u n w : Nat} {k : Int} {S S' : Stack} {cs : List D} {i : Nat} (h : frz l 15 (.sl u i n 0 n w) S = (.lst n cs, S')) : frz l 16 (.tup [.sl u i n 0 n w, .int .i64 k]) S = (.tup [.lst n cs, .int .i64 k], S') := by
  rw [frz_tup (by rfl) (by omega)]
  simp only [frzL_cons, frzL_nil]
  rw [h, frz_clean (by rfl) (by omega)]
end Go.Proofs.YtehandllpmlcoaaGreat

/-
  Plans in new memory; a bed that stays as it is.
-/
set_option linter.unusedVariables false
set_option linter.unusedSimpArgs false
namespace Go.Proofs.YtehandllpmlcoaaGreat
open Go Go.Abs Go.Rock
variable {σ : Stack}

/-- Rows, each in a block of its own. -/
def rowsI (L : Nat) : Nat → List (List Int) → List D
  | _, [] => []
  | n, l :: t => .sl L n 0 0 l.length 1 :: rowsI L (n + 1) t
def rowBI (l : List Int) : Abs.Blk := .cells 0 (l.flatMap intE)
theorem rowsI_len (L : Nat) : ∀ (n : Nat) (t : List (List Int)), (rowsI L n t).length = t.length
  | n, [] => rfl
  | n, l :: t => by simp [rowsI, rowsI_len L (n + 1) t]
theorem rowsI_snoc (L : Nat) (l : List Int) : ∀ (n : Nat) (t : List (List Int)), rowsI L n (t ++ [l]) = rowsI L n t ++ [.sl L (n + t.length) 0 0 l.length 1]
  | n, [] => by simp [rowsI]
  | n, a :: t => by simp [rowsI, rowsI_snoc L l (n + 1) t, Nat.add_assoc, Nat.add_comm 1]
theorem frz_rows {l0 n : Nat} (h0 : l0 < σ.length) (hn : 1 < n) : ∀ (t : List (List Int)) (A C : List Abs.Blk), frz.frzL (frz l0 n) (rowsI σ.length A.length t) ((A ++ (t.map rowBI ++ C)) :: σ) = (t.flatMap inL, (A ++ (List.replicate t.length .dead ++ C)) :: σ)
  | [], A, C => by simp [rowsI]
  | l :: t, A, C => by
    have h1 : ¬ σ.length ≤ l0 := by omega
    have h2 := k_self (f := intE) (w := 1) (fun _ => rfl) l
    have h3 : 0 < n - 1 := by omega
    have ih := frz_rows h0 hn t (A ++ [.dead]) C
    simp only [List.length_append, List.length_cons, List.length_nil, Nat.zero_add] at ih
    have e1 : frz l0 n (.sl σ.length A.length 0 0 l.length 1) ((A ++ (rowBI l :: (t.map rowBI ++ C))) :: σ) = (.lst l.length (l.flatMap intE), (A ++ (.dead :: (t.map rowBI ++ C))) :: σ) := by
      rw [frz_sl h1 (cs := l.flatMap intE) (by simp [rowBI]) (by omega)]
      simp at h2
      simp [h2, h3, cl_int]
    have e2 : (A ++ (.dead :: (t.map rowBI ++ C))) = (A ++ [.dead]) ++ (t.map rowBI ++ C) := by simp
    simp only [rowsI, frzL_cons, List.map_cons, List.cons_append]
    rw [e1, e2, ih]
    simp [List.replicate_succ, inL]
/-- The segment of a plan that was made. -/
def segP (L : Nat) (t : List (List Int)) : List Abs.Blk := .cells t.length (rowsI L 1 t) :: t.map rowBI
theorem L_planC {t : List (List Int)} (ht : t.length ≤ 1000) (hl : ∀ l ∈ t, 1 ≤ l.length ∧ l.length ≤ 1000) : ∀ (m y : Nat), y + m = t.length →
    WL T [0, 3, 4] false f_law05_Plan_l6 [(0, .lst t.length (t.flatMap inL)), (3, .sl σ.length 0 y 0 y 1), (4, .int .i64 y)] (segP σ.length (t.take y) :: σ)
      (fun x e σ' => x = .exit 0 ∧ get e 3 = .sl σ.length 0 t.length 0 t.length 1 ∧ σ' = segP σ.length t :: σ)
  | 0, y, hy => by
    refine WL_step e_law05_Plan_l6 ?_
    have g1 : y = t.length := by omega
    subst g1
    simp [-List.length_flatMap, -List.map_take, eF]
  | m + 1, y, hy => by
    refine WL_step e_law05_Plan_l6 ?_
    have g1 : y < t.length := by omega
    obtain ⟨l, hx⟩ : ∃ x, t[y]? = some x := ⟨_, List.getElem?_eq_getElem g1⟩
    have hll := hl l (List.mem_of_getElem? hx)
    have w1 := wnext g1 (by omega)
    have a1 := flat_at (f := inL) (w := 1) (fun _ => rfl) hx
    simp only [inL, Nat.mul_one] at a1
    have ih := L_planC ht hl m (y + 1) (by omega)
    have h6 : (t.take y).length = y := by simp; omega
    have h7 := room24 (n := y + 1) (by omega)
    have h8 : l.length * 8 ≤ room := by unfold room; omega
    have e1 : t.take (y + 1) = t.take y ++ [l] := by rw [List.take_add_one, hx]; rfl
    have r1 := rowsI_len σ.length 1 (t.take y)
    rw [h6] at r1
    have r2 : (rowsI σ.length 1 (t.take y)).take y = rowsI σ.length 1 (t.take y) := List.take_of_length_le (by omega)
    have r3 := rowsI_snoc σ.length l 1 (t.take y)
    rw [h6] at r3
    have i1 := int_len l
    have hl0 : ¬ l.length = 0 := by omega
    have hl1 : l ≠ [] := fun h => hl0 (by rw [h]; rfl)
    rw [e1] at ih
    unfold segP at ih ⊢
    rw [r3, List.length_append, h6] at ih
    rw [h6]
    generalize rowsI σ.length 1 (t.take y) = R at *
    have e9 : min y t.length = y := by omega
    simp [-List.length_flatMap, -List.map_take, eF, g1, a1, w1, r1, r2, h7, h8, i1, hl0, hl1, inL, e9]
    exact WL.to ih (by simp) (by simp [rowBI]; omega) fun x e σ hh => hh
/-- A kept plan, written out. -/
theorem frz_plan {l0 n : Nat} (h0 : l0 < σ.length) (hn : 2 < n) {t : List (List Int)} : frz l0 n (.sl σ.length 0 t.length 0 t.length 1) (segP σ.length t :: σ) =
    (.lst t.length (t.flatMap inL), (.dead :: (List.replicate t.length .dead ++ [])) :: σ) := by
  have h1 : ¬ σ.length ≤ l0 := by omega
  have r1 := rowsI_len σ.length 1 t
  have r2 : (rowsI σ.length 1 t).take t.length = rowsI σ.length 1 t := List.take_of_length_le (by omega)
  have hN := frz_rows (σ := σ) (n := n - 1) h0 (by omega) t [.dead] []
  simp only [List.length_cons, List.length_nil, Nat.zero_add] at hN
  unfold segP
  rw [frz_sl h1 (cs := rowsI σ.length 1 t) (by simp) (by omega)]
  simp [r2]
  simp only [List.cons_append, List.nil_append, List.append_nil] at hN
  rw [hN]
  simp
theorem C_PlanL1 {t : List (List Int)} (ht : t.length ≤ 1000) (hl : ∀ l ∈ t, 1 ≤ l.length ∧ l.length ≤ 1000) (hσ : σ ≠ []) : lim T (.call false i_law05_Plan [.lst t.length (t.flatMap inL)] σ) = some (.val (.lst t.length (t.flatMap inL)) σ) := by
  refine call_of T_law05_Plan e_law05_Plan rfl ?_
  simp [-List.length_flatMap, -List.map_take, eF]
  refine WL.to (L_planC (σ := σ) ht hl t.length 0 (by omega)) (by simp) (by simp [segP, rowsI]) ?_
  rintro x e σ' ⟨rfl, g3, rfl⟩
  have h0 : σ.length - 1 < σ.length := by have := List.length_pos_iff.2 hσ; omega
  have hf := frz_plan (σ := σ) (n := 16) h0 (by decide) (t := t)
  simp [-List.length_flatMap, -List.map_take, eF, g3, hf]
theorem flat_nil {t : List (List Int)} (hl : ∀ l ∈ t, l = []) : t.flatMap inL = List.replicate t.length (.lst 0 []) := by
  induction t with
  | nil => rfl
  | cons a t ih =>
    rw [List.flatMap_cons, ih fun l h => hl l (List.mem_cons_of_mem _ h), hl a (List.mem_cons_self ..)]
    simp [inL, List.replicate_succ]
theorem flat_one (l : List Nat) : (l.flatMap fun _ => [D.lst 0 []]) = List.replicate l.length (.lst 0 []) := by
  induction l with
  | nil => rfl
  | cons a l ih => rw [List.flatMap_cons, ih]; rfl
theorem L_plan0 {n : Nat} (hn : n ≤ 1000) : ∀ (m y : Nat), y + m = n →
    WL T [0, 3, 4] false f_law05_Plan_l6 [(0, .lst n (List.replicate n (.lst 0 []))), (3, .sl σ.length 0 y 0 y 1), (4, .int .i64 y)] ([.cells y (List.replicate y (.lst 0 []))] :: σ)
      (fun x e σ' => x = .exit 0 ∧ get e 3 = .sl σ.length 0 n 0 n 1 ∧ σ' = [.cells n (List.replicate n (.lst 0 []))] :: σ)
  | 0, y, hy => by
    refine WL_step e_law05_Plan_l6 ?_
    obtain rfl : y = n := by omega
    simp [-List.length_flatMap, -List.map_take, eF]
  | m + 1, y, hy => by
    refine WL_step e_law05_Plan_l6 ?_
    have g1 : y < n := by omega
    have w1 := wnext g1 (by omega)
    have ih := L_plan0 hn m (y + 1) (by omega)
    have h7 := room24 (n := y + 1) (by omega)
    have a1 : ((List.replicate n (D.lst 0 [])).drop y).take 1 = [.lst 0 []] := by
      rw [List.drop_replicate, List.take_replicate, Nat.min_eq_left (by omega)]; rfl
    have r1 : List.replicate (y + 1) (D.lst 0 []) = List.replicate y (.lst 0 []) ++ [.lst 0 []] := List.replicate_succ'
    rw [r1] at ih
    have hm : min 1 (n - y) = 1 := by omega
    simp [-List.length_flatMap, -List.map_take, eF, g1, hm, w1, h7]
    exact WL.to ih (by simp) (by simp) fun x e σ hh => hh
theorem C_PlanL {b : Bed} {t : List (List Int)} (hw : b.wells.length ≤ 8) (ht : t.length ≤ 1000) (hr : ∀ r ∈ t, Rv b r) (hσ : σ ≠ []) : lim T (.call false i_law05_Plan [.lst t.length (t.flatMap inL)] σ) = some (.val (.lst t.length (t.flatMap inL)) σ) := by
  by_cases hc : b.wells.length = 0
  · have h0 : ∀ l ∈ t, l = [] := fun l h => List.length_eq_zero_iff.1 (by rw [(hr l h).len]; exact hc)
    refine call_of T_law05_Plan e_law05_Plan rfl ?_
    rw [flat_nil h0]
    simp [-List.length_flatMap, -List.map_take, eF]
    refine WL.to (L_plan0 (σ := σ) (n := t.length) ht t.length 0 (by omega)) (by simp) (by simp) ?_
    rintro x e σ' ⟨rfl, g3, rfl⟩
    have hk := k_out (n := 16) (f := fun _ : Nat => [D.lst 0 []]) (w := 1) (l := List.range t.length) (j := 0) (v := t.length) (bs := [.cells t.length ((List.range t.length).flatMap fun _ => [D.lst 0 []])]) (by decide) (fun _ => rfl) (fun x => by simp [D.clean]) hσ rfl
    have he := flat_one (List.range t.length)
    rw [List.length_range] at he
    rw [List.length_range, he] at hk
    simp [-List.length_flatMap, -List.map_take, eF, g3, hk]
  · exact C_PlanL1 ht (fun l h => by rw [(hr l h).len]; omega) hσ
theorem C_Three : lim T (.call false i_law01_Three [] σ) = some (.val (.lst 3 (Rock.three.flatMap Rock.Rw.enc)) σ) := by
  refine call_of T_law01_Three e_law01_Three rfl ?_
  simp [-List.length_flatMap, -List.map_take, eF, Rock.three]
theorem C_still (hσ : σ ≠ []) : lim T (.call false i_top_still [] σ) = some (.val (.bool true) σ) := by
  refine call_of T_top_still e_top_still rfl ?_
  have hP := fun σ hσ => C_Play (σ := σ) (b := Rock.stillB) (m := Rock.stillM) (plan := [[]]) (wq := .nils) (by rfl) (by decide) (by decide) (by decide) (by decide) (by decide) (by decide) hσ
  have hE : playE Rock.stillB Rock.stillM [[]] = 0 := by simp [playE, Rock.still_bd, Rock.still_plan, Rock.still_run]
  have hD : playD Rock.stillB Rock.stillM [[]] = .agg [.lst 2 [.lst 1 [.int .i64 1000, .int .i64 2000, .int .i64 0], .lst 1 [.int .i64 1000, .int .i64 2000, .int .i64 0]], .lst 1 [.lst 0 []]] := by
    simp [playD, hE, Rock.still_run, stL]
  rw [hD, hE] at hP
  simp [Rock.stillB, Rock.stillM, inL, show Rock.three.length = 3 from rfl] at hP
  simp [-List.length_flatMap, -List.map_take, eF, C_Three, hP]
/-- Play of a model that fits. -/
theorem C_PlayOk {b : Bed} {l : List Mdl} {plan : List (List Int)} (h : Ok b l plan) {m : Mdl} (hm : m ∈ l) {r : RunT} (hr : Rock.run b m plan = some r) (hσ : σ ≠ []) :
    lim T (.call false i_rock_Play [.agg [.int .i64 b.f.x, .int .i64 b.f.y, .int .i64 b.f.z, .int .i64 b.f.k, .lst b.tab.length (b.tab.flatMap Rw.enc), .int .i64 b.stiff, .int .i64 b.lift, .int .i64 b.deep, .lst b.wells.length (b.wells.flatMap Bore.enc)], .agg [.str m.name, .lst m.vals.length (m.vals.flatMap intE)], .lst plan.length (plan.flatMap inL)] σ) = some (.val (.tup [.agg [.lst r.1.length (r.1.flatMap stL), .lst r.2.length (r.2.flatMap stL)], .int .i64 0]) σ) := by
  have htab := h.bv.tab
  have ht : b.tab.length ≤ 20 := by
    simp only [tabOk, Bool.and_eq_true] at htab
    have := inn_iff.1 htab.1; omega
  have hp := h.plen
  have hw := h.bv.wells
  obtain ⟨s1, s2⟩ := h.short m hm
  have hP := C_Play (σ := σ) (b := b) (m := m) (plan := plan) (wq := .lst b.wells.length (b.wells.flatMap Bore.enc)) (by simp) (by omega) (by omega) s1 (by omega) (by omega) (fun l hl => by rw [(h.rates l hl).len]; omega) hσ
  have hb : Bd b m = true := by simp [Bd, h.valid, h.fit m hm]
  obtain ⟨ss, ys⟩ := r
  have hE : playE b m plan = 0 := by simp [playE, hb, h.pl, hr]
  have hD : playD b m plan = .agg [.lst ss.length (ss.flatMap stL), .lst ys.length (ys.flatMap stL)] := by simp [playD, hE, hr]
  rw [hD, hE] at hP
  exact hP
end Go.Proofs.YtehandllpmlcoaaGreat

/-
  Measures and readings in plain Lean; whether models are struck by one or the other first. No program in sight.
-/
set_option linter.unusedVariables false
set_option linter.unusedSimpArgs false
namespace Go.Rock
open Go Go.Abs

structure Mea where
  name : List UInt8
  kind : Int
  bl : List Int
  wt : List Int
  lo : Int
  hi : Int
structure Rdg where
  tick : Int
  what : Int
  idx : Int
  lo : Int
  hi : Int
@[simp] theorem Mea.eta (p : Mea) : Mea.mk p.name p.kind p.bl p.wt p.lo p.hi = p := rfl
@[simp] theorem Rdg.eta (p : Rdg) : Rdg.mk p.tick p.what p.idx p.lo p.hi = p := rfl
@[simp] def Mea.enc (m : Mea) : List D := [.str m.name, .int .i64 m.kind, .lst m.bl.length (m.bl.flatMap intE), .lst m.wt.length (m.wt.flatMap intE), .int .i64 m.lo, .int .i64 m.hi]
@[simp] def Rdg.enc (x : Rdg) : List D := [.int .i64 x.tick, .int .u8 x.what, .int .i64 x.idx, .int .i64 x.lo, .int .i64 x.hi]

/-- Blocks rise, weights are small. -/
def sumsL (n : Int) : Int → List Int → List Int → Bool
  | last, b :: bl, w :: wt => decide (last < b) && (decide (b < n) && (inn w (-1000) 1000 && sumsL n b bl wt))
  | _, _, _ => true
def sumsOk (f : Fld) (kind : Int) (bl wt : List Int) : Bool := inn kind 0 (f.k - 1) && (decide (1 ≤ bl.length) && (decide (bl.length = wt.length) && sumsL f.size (-1) bl wt))
def endsOk (lo hi : Int) : Bool := decide (-10000000000 ≤ lo) && (decide (lo ≤ hi) && decide (hi ≤ 10000000000))
def Fld.measure (f : Fld) (m : Mea) : Int := if named m.name then (if sumsOk f m.kind m.bl m.wt && endsOk m.lo m.hi then 0 else 1) else 5
def Fld.eachM (f : Fld) (met : List (List UInt8)) : List Mea → Int
  | [] => 0
  | m :: l => if f.measure m = 0 then (if met.contains m.name then 6 else f.eachM (met ++ [m.name]) l) else f.measure m
def Fld.measures (f : Fld) (l : List Mea) : Int := if 12 < l.length then 3 else f.eachM [] l
theorem eachM_all {f : Fld} : ∀ {l : List Mea} {met : List (List UInt8)}, f.eachM met l = 0 → ∀ x ∈ l, f.measure x = 0
  | [], met, h, x, hx => by cases hx
  | m :: l, met, h, x, hx => by
    simp only [Fld.eachM] at h
    split at h
    · rename_i h1
      split at h
      · cases h
      · rcases List.mem_cons.1 hx with rfl | hx
        · exact h1
        · exact eachM_all h x hx
    · rename_i h1; exact absurd h h1
/-- What is known of a measure without an error. -/
structure Mev (f : Fld) (x : Mea) : Prop where
  name : x.name.length ≤ 16
  kind : 0 ≤ x.kind ∧ x.kind < f.k
  ne : 1 ≤ x.bl.length
  len : x.bl.length = x.wt.length
  rise : sumsL f.size (-1) x.bl x.wt = true
  ends : -10000000000 ≤ x.lo ∧ x.lo ≤ x.hi ∧ x.hi ≤ 10000000000
theorem Mev.of {f : Fld} {x : Mea} (h : f.measure x = 0) : Mev f x := by
  unfold Fld.measure at h
  split at h
  · rename_i h1
    split at h
    · rename_i h2
      simp only [sumsOk, endsOk, Bool.and_eq_true, decide_eq_true_eq, inn_iff] at h2
      obtain ⟨⟨h3, h4, h5, h6⟩, h7, h8, h9⟩ := h2
      simp only [named, Bool.and_eq_true] at h1
      have := inn_iff.1 h1.2
      exact ⟨by omega, by omega, h4, h5, h6, h7, h8, h9⟩
    · cases h
  · cases h
theorem sumsL_len {n : Int} : ∀ {bl wt : List Int} {last : Int}, bl.length = wt.length → sumsL n last bl wt = true → last < n → (bl.length : Int) ≤ n - 1 - last
  | [], wt, last, hl, h, hn => by simp; omega
  | b :: bl, [], last, hl, h, hn => by simp at hl
  | b :: bl, w :: wt, last, hl, h, hn => by
    simp only [sumsL, Bool.and_eq_true, decide_eq_true_eq] at h
    obtain ⟨h1, h2, h3, h4⟩ := h
    have := sumsL_len (n := n) (bl := bl) (wt := wt) (last := b) (by simpa using hl) h4 h2
    simp only [List.length_cons]; omega
/-- Each block and each weight. -/
theorem sumsL_at {n : Int} : ∀ {bl wt : List Int} {last : Int} {i : Nat} {b w : Int}, sumsL n last bl wt = true → bl[i]? = some b → wt[i]? = some w → last < b ∧ b < n ∧ (-1000 ≤ w ∧ w ≤ 1000)
  | [], wt, last, i, b, w, h, hb, hw => by simp at hb
  | b' :: bl, [], last, i, b, w, h, hb, hw => by simp at hw
  | b' :: bl, w' :: wt, last, i, b, w, h, hb, hw => by
    simp only [sumsL, Bool.and_eq_true, decide_eq_true_eq] at h
    obtain ⟨h1, h2, h3, h4⟩ := h
    cases i with
    | zero =>
      simp only [List.getElem?_cons_zero, Option.some.injEq] at hb hw
      subst hb hw
      exact ⟨h1, h2, inn_iff.1 h3⟩
    | succ i =>
      have := sumsL_at h4 (by simpa using hb) (by simpa using hw)
      omega
/-- The weighted sum. -/
def sumA (vals : List Int) (off : Int) : Int → List Int → List Int → Int
  | acc, b :: bl, w :: wt => sumA vals off (acc + w * (vals[(off + b).toNat]?).getD 0) bl wt
  | acc, _, _ => acc
def wsum (f : Fld) (m : Mdl) (x : Mea) : Int := sumA m.vals (x.kind * f.size) 0 x.bl x.wt
def missF (lo hi s : Int) : Int := if hi < s then s - hi else if s < lo then s - lo else 0
def missR (lo hi s : Int) : Int := max 0 (s - hi) + min 0 (s - lo)
theorem missR_zero {lo hi s : Int} (h : lo ≤ hi) : missR lo hi s = missF lo hi s := by
  unfold missR missF
  split
  · omega
  · split <;> omega
def missL (f : Fld) (m : Mdl) (l : List Mea) : List Int := l.map fun x => missF x.lo x.hi (wsum f m x)
/-- The first that is not 0. -/
def okF (f : Fld) (l : List Mea) (m : Mdl) : Bool := (missL f m l).all fun n => n == 0

/-- What is read, in a run. -/
def Blk.warmth (y : Blk) : Int := if y.m = 0 then 0 else y.h.tdiv y.m
def Blk.tells (y : Blk) (what : Int) : Int := if what = 2 then y.m else if what = 3 then y.warmth else y.k
def readV (b : Bed) (m : Mdl) (r : List (List Blk) × List (List Blk)) (x : Rdg) : Int :=
  if x.what = 1 then pressure b m ((r.1[x.tick.toNat]?).getD []) x.idx.toNat else Blk.tells (blkAt ((r.2[x.tick.toNat - 1]?).getD []) x.idx.toNat) x.what
def readE (b : Bed) (ticks : Int) (x : Rdg) : Int :=
  if !inn x.what 1 4 || (decide (x.lo < -10000000000) || (decide (x.hi < x.lo) || decide (10000000000 < x.hi))) then 1
  else if !inn x.tick (if x.what = 1 then 0 else 1) ticks || !inn x.idx 0 ((if x.what = 1 then b.size else b.wells.length) - 1) then 2 else 0
def readsE (b : Bed) (ticks : Int) (l : List Rdg) : Int := if 40 < l.length then 3 else firstE (readE b ticks) l
structure Rdv (b : Bed) (n : Nat) (x : Rdg) : Prop where
  what : 1 ≤ x.what ∧ x.what ≤ 4
  ends : -10000000000 ≤ x.lo ∧ x.lo ≤ x.hi ∧ x.hi ≤ 10000000000
  p : x.what = 1 → (0 ≤ x.tick ∧ x.tick ≤ n) ∧ 0 ≤ x.idx ∧ x.idx < b.size
  y : x.what ≠ 1 → (1 ≤ x.tick ∧ x.tick ≤ n) ∧ 0 ≤ x.idx ∧ x.idx < b.wells.length
theorem Rdv.of {b : Bed} {n : Nat} {x : Rdg} (h : readE b n x = 0) : Rdv b n x := by
  unfold readE at h
  by_cases h3 : x.what = 1
  · rw [if_pos h3, if_pos h3] at h
    split at h
    · cases h
    · rename_i h1
      simp only [Bool.or_eq_true, decide_eq_true_eq, Bool.not_eq_true', not_or, Bool.not_eq_false, inn_iff] at h1
      split at h
      · cases h
      · rename_i h2
        simp only [Bool.or_eq_true, Bool.not_eq_true', not_or, Bool.not_eq_false, inn_iff] at h2
        exact ⟨h1.1, by omega, fun _ => by omega, fun h => absurd h3 h⟩
  · rw [if_neg h3, if_neg h3] at h
    split at h
    · cases h
    · rename_i h1
      simp only [Bool.or_eq_true, decide_eq_true_eq, Bool.not_eq_true', not_or, Bool.not_eq_false, inn_iff] at h1
      split at h
      · cases h
      · rename_i h2
        simp only [Bool.or_eq_true, Bool.not_eq_true', not_or, Bool.not_eq_false, inn_iff] at h2
        exact ⟨h1.1, by omega, fun h => absurd h h3, fun _ => by omega⟩
def okR (b : Bed) (rs : Mdl → Option (List (List Blk) × List (List Blk))) (l : List Rdg) (m : Mdl) : Bool :=
  match rs m with
  | some r => l.all fun x => missR x.lo x.hi (readV b m r x) == 0
  | none => false

/-- The indices of what is so. -/
def idxs {α : Type} (p : α → Bool) : Nat → List α → List Int
  | _, [] => []
  | i, x :: l => if p x then (i : Int) :: idxs p (i + 1) l else idxs p (i + 1) l
theorem idxs_len {α : Type} {p : α → Bool} : ∀ {l : List α} {i : Nat}, (idxs p i l).length ≤ l.length
  | [], i => by simp [idxs]
  | x :: l, i => by
    simp only [idxs]
    have := idxs_len (p := p) (l := l) (i := i + 1)
    split <;> simp <;> omega
theorem idxs_get {α : Type} {p : α → Bool} : ∀ {l : List α} {i : Nat} {n : Int}, n ∈ idxs p i l → ∃ k x, n = ((i + k : Nat) : Int) ∧ l[k]? = some x ∧ p x = true
  | [], i, n, h => by simp [idxs] at h
  | x :: l, i, n, h => by
    simp only [idxs] at h
    split at h
    · rename_i hp
      rcases List.mem_cons.1 h with rfl | h
      · exact ⟨0, x, rfl, rfl, hp⟩
      · obtain ⟨k, y, h1, h2, h3⟩ := idxs_get h
        exact ⟨k + 1, y, by rw [h1]; omega, by simpa using h2, h3⟩
    · obtain ⟨k, y, h1, h2, h3⟩ := idxs_get h
      exact ⟨k + 1, y, by rw [h1]; omega, by simpa using h2, h3⟩
theorem idxs_map {α : Type} {p : α → Bool} {d : α} {L : List α} : ∀ {l : List α} {i : Nat}, L.drop i = l → (idxs p i l).map (fun n => (L[n.toNat]?).getD d) = l.filter p
  | [], i, h => by simp [idxs]
  | x :: l, i, h => by
    have h1 : L[i]? = some x := by
      have : (L.drop i)[0]? = some x := by rw [h]; rfl
      simpa using this
    have h2 : L.drop (i + 1) = l := by rw [← List.drop_drop, h]; rfl
    simp only [idxs]
    split
    · rename_i hp
      simp [h1, hp, idxs_map (p := p) h2]
    · rename_i hp
      simp [hp, idxs_map (p := p) h2]
end Go.Rock

/-
  What the functions on measures answer.
-/
set_option linter.unusedVariables false
set_option linter.unusedSimpArgs false
namespace Go.Proofs.YtehandllpmlcoaaGreat
open Go Go.Abs Go.Rock
variable {σ : Stack}

theorem C_blocks' {f : Fld} (h : f.valid = true) : lim T (.call false i_field_Field_blocks [.agg [.int .i64 f.x, .int .i64 f.y, .int .i64 f.z, .int .i64 f.k]] σ) = some (.val (.int .i64 f.size) σ) := by
  obtain ⟨h1, h2, h3, h4, h5⟩ := Fld.valid_iff.1 h
  exact C_blocks h1 h2 h3
theorem L_sums {f : Fld} {bl wt : List Int} (hf : f.valid = true) (hl : bl.length ≤ 9223372036854775807) (hw : bl.length = wt.length) : ∀ (k i : Nat) (last : Int), i + k = bl.length →
    WL T [3, 4, 9, 30, 31, 32] false f_field_Field_sums_l11 [(3, .lst wt.length (wt.flatMap intE)), (4, .cref [.int .i64 f.x, .int .i64 f.y, .int .i64 f.z, .int .i64 f.k]), (9, .int .i64 last), (30, .lst bl.length (bl.flatMap intE)), (31, .int .i64 bl.length), (32, .int .i64 i)] σ
      (fun x e σ' => σ' = σ ∧ if sumsL f.size last (bl.drop i) (wt.drop i) then x = .exit 0 else x = .ret ∧ get e 8 = .bool false)
  | 0, i, last, hi => by
    refine WL_step e_field_Field_sums_l11 ?_
    have h1 : ¬ i < bl.length := by omega
    have h2 : bl.drop i = [] := List.drop_eq_nil_of_le (by omega)
    simp [-List.length_flatMap, -List.map_take, eF, h1, h2, sumsL]
  | k + 1, i, last, hi => by
    refine WL_step e_field_Field_sums_l11 ?_
    have h1 : i < bl.length := by omega
    have h1' : i < wt.length := by omega
    obtain ⟨b, hb⟩ : ∃ r, bl[i]? = some r := ⟨_, List.getElem?_eq_getElem h1⟩
    obtain ⟨w, hw'⟩ : ∃ r, wt[i]? = some r := ⟨_, List.getElem?_eq_getElem h1'⟩
    have h2 := intE_at hb
    have h3 := intE_at hw'
    have h4 := wnext h1 hl
    have h5 := drop_at hb
    have h6 := drop_at hw'
    have hB := fun σ => C_blocks' (σ := σ) hf
    have ih := L_sums hf hl hw k (i + 1) b (by omega)
    rw [h5, h6, sumsL]
    by_cases c1 : b ≤ last
    · simp [-List.length_flatMap, -List.map_take, eF, h1, h1', h2, h3, h4, hB, C_fwithin, c1, show ¬ last < b by omega]
    · by_cases c2 : f.size ≤ b
      · simp [-List.length_flatMap, -List.map_take, eF, h1, h1', h2, h3, h4, hB, C_fwithin, c1, c2, show last < b by omega, show ¬ b < f.size by omega]
      · cases c3 : inn w (-1000) 1000
        · simp [-List.length_flatMap, -List.map_take, eF, h1, h1', h2, h3, h4, hB, C_fwithin, c1, c2, c3, show last < b by omega, show b < f.size by omega]
        · simp [-List.length_flatMap, -List.map_take, eF, h1, h1', h2, h3, h4, hB, C_fwithin, c1, c2, c3, show last < b by omega, show b < f.size by omega]
          exact WL.to ih (by simp) rfl fun x e σ hh => by simpa [show last < b by omega, show b < f.size by omega] using hh
theorem C_sums {f : Fld} {k : Int} {bl wt : List Int} (hf : f.valid = true) (hl : bl.length ≤ 9223372036854775807) (hk : f.valid = true → True) :
    lim T (.call false i_field_Field_sums [.agg [.int .i64 f.x, .int .i64 f.y, .int .i64 f.z, .int .i64 f.k], .int .i64 k, .lst bl.length (bl.flatMap intE), .lst wt.length (wt.flatMap intE)] σ) = some (.val (.bool (sumsOk f k bl wt)) σ) := by
  refine call_of T_field_Field_sums e_field_Field_sums rfl ?_
  obtain ⟨q1, q2, q3, q4, q5⟩ := Fld.valid_iff.1 hf
  have w1 := w64 (n := f.k - 1) (by omega)
  unfold sumsOk
  cases c1 : inn k 0 (f.k - 1)
  · simp [-List.length_flatMap, -List.map_take, eF, C_fwithin, w1, c1]
  by_cases c2 : 1 ≤ bl.length
  rotate_left
  · have : bl = [] := List.length_eq_zero_iff.1 (by omega)
    subst this
    simp [-List.length_flatMap, -List.map_take, eF, C_fwithin, w1, c1]
  have c2' : ¬ (bl.length : Int) < 1 := by omega
  have c2'' : ¬ bl = [] := fun h => by rw [h] at c2; simp at c2
  by_cases c3 : bl.length = wt.length
  rotate_left
  · simp [-List.length_flatMap, -List.map_take, eF, C_fwithin, w1, c1, c2', c2'', c3, show ¬ (bl.length : Int) = wt.length by omega]
  have c4 : ¬ (wt.length : Int) < 1 := by omega
  have c5 : ¬ wt = [] := fun h => by rw [h] at c3; simp at c3; exact c2'' c3
  simp [-List.length_flatMap, -List.map_take, eF, C_fwithin, w1, c1, c2, c2', c2'', c3, c4, c5]
  refine WL.to (L_sums (σ := [] :: σ) hf hl c3 bl.length 0 (-1) (by omega)) (by simp [c3]) rfl ?_
  rintro x e σ' ⟨rfl, h⟩
  simp only [List.drop_zero] at h
  cases hc : sumsL f.size (-1) bl wt
  · simp [hc] at h
    simp [h]
  · simp [hc] at h
    simp [-List.length_flatMap, -List.map_take, eF, h]
    omega
theorem C_fends {lo hi : Int} : lim T (.call false i_field_Range_ends [.agg [.int .i64 lo, .int .i64 hi]] σ) = some (.val (.bool (endsOk lo hi)) σ) := by
  refine call_of T_field_Range_ends e_field_Range_ends rfl ?_
  unfold endsOk
  by_cases c1 : -10000000000 ≤ lo
  · by_cases c2 : lo ≤ hi <;> simp [-List.length_flatMap, -List.map_take, eF, c1, c2]
  · simp [-List.length_flatMap, -List.map_take, eF, c1]
theorem C_measure {f : Fld} {m : Mea} (hf : f.valid = true) (hn : m.name.length ≤ 1000000000) (hl : m.bl.length ≤ 9223372036854775807) :
    lim T (.call false i_field_Field_measure [.agg [.int .i64 f.x, .int .i64 f.y, .int .i64 f.z, .int .i64 f.k], .agg m.enc] σ) = some (.val (.int .i64 (f.measure m)) σ) := by
  refine call_of T_field_Field_measure e_field_Field_measure rfl ?_
  have h1 := fun σ => C_named (σ := σ) hn
  have h2 := fun σ => C_sums (σ := σ) (k := m.kind) (wt := m.wt) hf hl (fun _ => trivial)
  unfold Fld.measure
  cases c1 : named m.name
  · simp [-List.length_flatMap, -List.map_take, eF, h1, c1]
  cases c2 : sumsOk f m.kind m.bl m.wt
  · simp [-List.length_flatMap, -List.map_take, eF, h1, h2, c1, c2]
  cases c3 : endsOk m.lo m.hi <;> simp [-List.length_flatMap, -List.map_take, eF, h1, h2, C_fends, c1, c2, c3]
theorem C_ofM {f : Fld} {m : Mea} (hf : f.valid = true) (hn : m.name.length ≤ 1000000000) (hl : m.bl.length ≤ 9223372036854775807) :
    lim T (.call false i_field_Field_measures_1 [.agg m.enc, .cref [.int .i64 f.x, .int .i64 f.y, .int .i64 f.z, .int .i64 f.k]] σ) = some (.val (.tup [.str m.name, .int .i64 (f.measure m)]) σ) := by
  refine call_of T_field_Field_measures_1 e_field_Field_measures_1 rfl ?_
  have h := fun σ => C_measure (σ := σ) hf hn hl
  simp only [Mea.enc] at h ⊢
  simp [-List.length_flatMap, -List.map_take, eF, h]
theorem meaE_at {l : List Mea} {j : Nat} {m : Mea} (h : l[j]? = some m) : ((l.flatMap Mea.enc).drop (j * 6)).take 6 = m.enc :=
  flat_at (f := Mea.enc) (w := 6) (fun _ => rfl) h
def shortM (l : List Mea) : Prop := ∀ m ∈ l, m.name.length ≤ 1000000000 ∧ m.bl.length ≤ 9223372036854775807
theorem L_eachM {f : Fld} {l : List Mea} (hf : f.valid = true) (hs : shortM l) (hl : l.length ≤ 1000000000) : ∀ (k i : Nat) (met : List (List UInt8)), i + k = l.length →
    WL T [1, 5, 11, 12, 13] false f_field_each_field_Measure_l12 [(1, .fn i_field_Field_measures_1 [] [.cref [.int .i64 f.x, .int .i64 f.y, .int .i64 f.z, .int .i64 f.k]]), (5, .yld σ.length 0), (11, .lst l.length (l.flatMap Mea.enc)), (12, .int .i64 l.length), (13, .int .i64 i)] ([.cells 0 (metE met)] :: σ)
      (fun x e σ' => ∃ s, σ' = s :: σ ∧ if f.eachM met (l.drop i) = 0 then x = .exit 0 else x = .ret ∧ get e 4 = .int .i64 (f.eachM met (l.drop i)))
  | 0, i, met, hi => by
    refine WL_step e_field_each_field_Measure_l12 ?_
    have h1 : ¬ i < l.length := by omega
    have h2 : l.drop i = [] := List.drop_eq_nil_of_le (by omega)
    simp [-List.length_flatMap, -List.map_take, eF, h1, h2, Fld.eachM]
  | k + 1, i, met, hi => by
    refine WL_step e_field_each_field_Measure_l12 ?_
    have h1 : i < l.length := by omega
    obtain ⟨m, hm⟩ : ∃ m, l[i]? = some m := ⟨_, List.getElem?_eq_getElem h1⟩
    have h2 := meaE_at hm
    have h4 := wnext h1 (by omega)
    have h5 := drop_at hm
    obtain ⟨hs1, hs2⟩ := hs m (List.mem_of_getElem? hm)
    have hC := fun σ => C_ofM (σ := σ) hf hs1 hs2
    simp only [Mea.enc] at h2 hC
    rw [h5, Fld.eachM]
    by_cases hc1 : f.measure m = 0
    · have hg := mpGet (S := [.cells 0 (metE met)] :: σ) (l := σ.length) (i := 0) (met := met) (k := m.name) (by simp)
      cases hc2 : met.contains m.name
      · rw [hc2] at hg
        have hp := mpPut (S := [.cells 0 (metE met)] :: σ) (l := σ.length) (i := 0) (met := met) (k := m.name) (by simp) hc2
        have ih := L_eachM hf hs hl k (i + 1) (met ++ [m.name]) (by omega)
        simp at hp
        have hc3 : ¬ m.name ∈ met := by simpa using hc2
        simp [-List.length_flatMap, -List.map_take, eF, h1, h2, h4, hC, hc1, hg, hp, hc3]
        exact WL.to ih (by simp) (by simp) fun x e σ' hh => by simpa [hc1] using hh
      · rw [hc2] at hg
        have hc3 : m.name ∈ met := by simpa using hc2
        simp [-List.length_flatMap, -List.map_take, eF, h1, h2, h4, hC, hc1, hg, hc3]
    · simp [-List.length_flatMap, -List.map_take, eF, h1, h2, h4, hC, hc1]
theorem C_eachM {f : Fld} {l : List Mea} (hf : f.valid = true) (hs : shortM l) (hl : l.length ≤ 1000000000) :
    lim T (.call false i_field_each_field_Measure [.lst l.length (l.flatMap Mea.enc), .fn i_field_Field_measures_1 [] [.cref [.int .i64 f.x, .int .i64 f.y, .int .i64 f.z, .int .i64 f.k]]] σ) = some (.val (.int .i64 (f.eachM [] l)) σ) := by
  refine call_of T_field_each_field_Measure e_field_each_field_Measure rfl ?_
  have hm : mpD ([] :: σ) .make [] = some (.yld σ.length 0, [.cells 0 (metE [])] :: σ) := by simp [mpD, metE]
  simp [-List.length_flatMap, -List.map_take, eF, hm]
  refine WL.to (L_eachM (σ := σ) hf hs hl l.length 0 [] (by omega)) (by simp) (by simp) ?_
  rintro x e σ' ⟨s, rfl, h⟩
  simp only [List.drop_zero] at h
  by_cases hc : f.eachM [] l = 0
  · rw [if_pos hc] at h
    subst h
    simp [-List.length_flatMap, -List.map_take, eF, hc]
  · rw [if_neg hc] at h
    obtain ⟨rfl, h⟩ := h
    simp [h]
theorem C_measures {f : Fld} {l : List Mea} (hf : f.valid = true) (hs : shortM l) (hl : l.length ≤ 1000000000) :
    lim T (.call false i_field_Field_measures [.agg [.int .i64 f.x, .int .i64 f.y, .int .i64 f.z, .int .i64 f.k], .lst l.length (l.flatMap Mea.enc)] σ) = some (.val (.int .i64 (f.measures l)) σ) := by
  refine call_of T_field_Field_measures e_field_Field_measures rfl ?_
  unfold Fld.measures
  by_cases hc : 12 < l.length
  · simp [-List.length_flatMap, -List.map_take, eF, hc, show (12 : Int) < l.length by omega]
  · simp [-List.length_flatMap, -List.map_take, eF, hc, show ¬ (12 : Int) < l.length by omega, C_eachM hf hs hl]
end Go.Proofs.YtehandllpmlcoaaGreat

/-
  Sums of measures; which models they leave.
-/
set_option linter.unusedVariables false
set_option linter.unusedSimpArgs false
set_option maxRecDepth 100000
namespace Go.Proofs.YtehandllpmlcoaaGreat
open Go Go.Abs Go.Rock
variable {σ : Stack}

/-- A model of the field. -/
structure Fm (f : Fld) (m : Mdl) : Prop where
  fv : f.valid = true
  len : (m.vals.length : Int) = f.k * f.size
  ok : ∀ v ∈ m.vals, -100000 ≤ v ∧ v ≤ 100000
theorem Fm.of {f : Fld} {m : Mdl} (hf : f.valid = true) (h : f.model m = 0) : Fm f m := by
  unfold Fld.model at h
  split at h
  · split at h
    · rename_i h1
      exact ⟨hf, h1.1, fun v hv => inn_iff.1 (allB_iff.1 h1.2 v hv)⟩
    · cases h
  · cases h
theorem mul_ab {a b A B : Int} (ha : -A ≤ a ∧ a ≤ A) (hb : -B ≤ b ∧ b ≤ B) (hA : 0 ≤ A) : -(A * B) ≤ a * b ∧ a * b ≤ A * B := by
  have key : ∀ x : Int, 0 ≤ x → x ≤ A → -(A * B) ≤ x * b ∧ x * b ≤ A * B := by
    intro x h0 h1
    have e1 : x * b ≤ x * B := Int.mul_le_mul_of_nonneg_left hb.2 h0
    have e2 : x * (-B) ≤ x * b := Int.mul_le_mul_of_nonneg_left hb.1 h0
    have e3 : x * B ≤ A * B := Int.mul_le_mul_of_nonneg_right h1 (by omega)
    rw [Int.mul_neg] at e2
    omega
  rcases Int.le_total 0 a with h | h
  · exact key a h ha.2
  · have := key (-a) (by omega) (by omega)
    rw [Int.neg_mul] at this; omega
theorem L_of {f : Fld} {m : Mdl} {x : Mea} (hm : Fm f m) (hx : Mev f x) : ∀ (k i : Nat) (acc : Int), i + k = x.bl.length → -(i * 100000000) ≤ acc ∧ acc ≤ i * 100000000 →
    WL T [2, 3, 4, 8, 9, 10] false f_field_scale_of_l6 [(2, .cref [.int .i64 f.x, .int .i64 f.y, .int .i64 f.z, .int .i64 f.k, .int .i64 x.kind, .lst x.bl.length (x.bl.flatMap intE), .lst x.wt.length (x.wt.flatMap intE)]), (3, .cref [.str m.name, .lst m.vals.length (m.vals.flatMap intE)]), (4, .int .i64 acc), (8, .lst x.bl.length (x.bl.flatMap intE)), (9, .int .i64 x.bl.length), (10, .int .i64 i)] σ
      (fun x' e σ' => σ' = σ ∧ x' = .exit 0 ∧ get e 4 = .int .i64 (sumA m.vals (x.kind * f.size) acc (x.bl.drop i) (x.wt.drop i))) := by
  intro k
  induction k with
  | zero =>
    intro i acc hi ha
    refine WL_step e_field_scale_of_l6 ?_
    have h1 : ¬ i < x.bl.length := by omega
    have h2 : x.bl.drop i = [] := List.drop_eq_nil_of_le (by omega)
    simp [-List.length_flatMap, -List.map_take, eF, h1, h2, sumA]
  | succ k ih0 =>
    intro i acc hi ha
    refine WL_step e_field_scale_of_l6 ?_
    have h1 : i < x.bl.length := by omega
    have hlen := hx.len
    have h1' : i < x.wt.length := by omega
    obtain ⟨b, hb⟩ : ∃ r, x.bl[i]? = some r := ⟨_, List.getElem?_eq_getElem h1⟩
    obtain ⟨w, hw⟩ : ∃ r, x.wt[i]? = some r := ⟨_, List.getElem?_eq_getElem h1'⟩
    obtain ⟨q1, q2⟩ := model_sz hm.fv
    obtain ⟨z1, z2, z3, z4, z5⟩ := Fld.valid_iff.1 hm.fv
    obtain ⟨s1, s2, s3⟩ := sumsL_at hx.rise hb hw
    have hl64 := sumsL_len hx.len hx.rise (by omega)
    have h4 := wnext h1 (by omega)
    have h5 := drop_at hb
    have h6 := drop_at hw
    have h2 := intE_at hb
    have h3 := intE_at hw
    have k1 := hx.kind
    have k2 : 0 ≤ x.kind * f.size ∧ x.kind * f.size + f.size ≤ f.k * f.size := by
      refine ⟨Int.mul_nonneg k1.1 (by omega), ?_⟩
      have := Int.mul_le_mul_of_nonneg_right (show x.kind + 1 ≤ f.k by omega) (show 0 ≤ f.size by omega)
      rw [Int.add_mul] at this; omega
    have hvl := hm.len
    obtain ⟨j, hj⟩ : ∃ j : Nat, x.kind * f.size + b = j := ⟨(x.kind * f.size + b).toNat, by omega⟩
    have hj1 : j < m.vals.length := by omega
    obtain ⟨v, hv⟩ : ∃ r, m.vals[j]? = some r := ⟨_, List.getElem?_eq_getElem hj1⟩
    have hvb := hm.ok v (List.mem_of_getElem? hv)
    have h7 := intE_at hv
    have hB := fun σ => C_blocks' (σ := σ) hm.fv
    have b1 := mul_ab (a := w) (b := v) (A := 1000) (B := 100000) (by omega) hvb (by omega)
    have w1 := w64 (n := x.kind * f.size) (by omega)
    have w2 := w64 (n := (j : Int)) (by omega)
    have w3 := w64 (n := w * v) (by omega)
    have w4 := w64 (n := acc + w * v) (by omega)
    have ih := ih0 (i + 1) (acc + w * v) (by omega) (by omega)
    rw [h5, h6, sumA, hj]
    simp only [Int.toNat_natCast, hv, Option.getD_some]
    simp [-List.length_flatMap, -List.map_take, eF, h1, h1', h2, h3, h4, hB, w1, w2, w3, w4, hj, hj1, h7]
    exact WL.to ih (by simp) rfl fun x e σ hh => by simpa [hv] using hh
theorem wsum_b {f : Fld} {m : Mdl} (hm : Fm f m) : ∀ {bl wt : List Int} {off acc : Int}, (∀ w ∈ wt, -1000 ≤ w ∧ w ≤ 1000) → -((bl.length : Int) * 100000000) + acc ≤ sumA m.vals off acc bl wt ∧ sumA m.vals off acc bl wt ≤ (bl.length : Int) * 100000000 + acc
  | [], wt, off, acc, hw => by simp [sumA]
  | b :: bl, [], off, acc, hw => by simp only [sumA, List.length_cons]; omega
  | b :: bl, w :: wt, off, acc, hw => by
    have ih := wsum_b hm (bl := bl) (wt := wt) (off := off) (acc := acc + w * (m.vals[(off + b).toNat]?).getD 0) (fun x hx => hw x (List.mem_cons_of_mem _ hx))
    have hb : -100000 ≤ (m.vals[(off + b).toNat]?).getD 0 ∧ (m.vals[(off + b).toNat]?).getD 0 ≤ 100000 := by
      cases hc : m.vals[(off + b).toNat]? with
      | none => simp
      | some v => exact hm.ok v (List.mem_of_getElem? hc)
    have b1 := mul_ab (a := w) (A := 1000) (B := 100000) (hw w (List.mem_cons_self ..)) hb (by omega)
    simp only [sumA, List.length_cons] at ih ⊢
    omega
theorem sumsL_w {n : Int} : ∀ {bl wt : List Int} {last : Int}, bl.length = wt.length → sumsL n last bl wt = true → ∀ w ∈ wt, -1000 ≤ w ∧ w ≤ 1000
  | [], wt, last, hl, h, w, hw => by
    have : wt = [] := List.length_eq_zero_iff.1 (by simpa using hl.symm)
    subst this; cases hw
  | b :: bl, [], last, hl, h, w, hw => by cases hw
  | b :: bl, w' :: wt, last, hl, h, w, hw => by
    simp only [sumsL, Bool.and_eq_true, decide_eq_true_eq] at h
    obtain ⟨h1, h2, h3, h4⟩ := h
    rcases List.mem_cons.1 hw with rfl | hw
    · exact inn_iff.1 h3
    · exact sumsL_w (by simpa using hl) h4 w hw
/-- A sum is at most 6400000000. -/
theorem mev_sum {f : Fld} {m : Mdl} {x : Mea} (hm : Fm f m) (hx : Mev f x) : -10000000000 ≤ wsum f m x ∧ wsum f m x ≤ 10000000000 := by
  obtain ⟨q1, q2⟩ := model_sz hm.fv
  have hl64 := sumsL_len hx.len hx.rise (by omega)
  have := wsum_b hm (bl := x.bl) (wt := x.wt) (off := x.kind * f.size) (acc := 0) (sumsL_w hx.len hx.rise)
  unfold wsum
  omega
theorem C_scale {f : Fld} {m : Mdl} {x : Mea} (hm : Fm f m) (hx : Mev f x) : lim T (.call false i_field_scale_of [.agg [.int .i64 f.x, .int .i64 f.y, .int .i64 f.z, .int .i64 f.k, .int .i64 x.kind, .lst x.bl.length (x.bl.flatMap intE), .lst x.wt.length (x.wt.flatMap intE)], .agg [.str m.name, .lst m.vals.length (m.vals.flatMap intE)]] σ) = some (.val (.int .i64 (wsum f m x)) σ) := by
  refine call_of T_field_scale_of e_field_scale_of rfl ?_
  simp [-List.length_flatMap, -List.map_take, eF]
  refine WL.to (L_of (σ := [] :: σ) hm hx x.bl.length 0 0 (by omega) (by simp)) (by simp) rfl ?_
  rintro x' e σ' ⟨rfl, rfl, g⟩
  simp [-List.length_flatMap, -List.map_take, eF, g, wsum]
theorem C_weighs {f : Fld} {x : Mea} : lim T (.call false i_field_Field_weighs [.agg [.int .i64 f.x, .int .i64 f.y, .int .i64 f.z, .int .i64 f.k], .agg x.enc] σ) = some (.val (.fn i_field_scale_of [.agg [.int .i64 f.x, .int .i64 f.y, .int .i64 f.z, .int .i64 f.k, .int .i64 x.kind, .lst x.bl.length (x.bl.flatMap intE), .lst x.wt.length (x.wt.flatMap intE)]] []) σ) := by
  refine call_of T_field_Field_weighs e_field_Field_weighs rfl ?_
  simp [-List.length_flatMap, -List.map_take, eF, D.clean, cl_int]
theorem C_fmiss {lo hi n : Int} (h1 : -10000000000 ≤ lo ∧ lo ≤ 10000000000) (h2 : -10000000000 ≤ hi ∧ hi ≤ 10000000000) (hn : -10000000000 ≤ n ∧ n ≤ 10000000000) :
    lim T (.call false i_field_Range_miss [.agg [.int .i64 lo, .int .i64 hi], .int .i64 n] σ) = some (.val (.int .i64 (missF lo hi n)) σ) := by
  refine call_of T_field_Range_miss e_field_Range_miss rfl ?_
  have w1 := w64 (n := n - hi) (by omega)
  have w2 := w64 (n := n - lo) (by omega)
  unfold missF
  by_cases c1 : hi < n
  · simp [-List.length_flatMap, -List.map_take, eF, c1, w1]
  · by_cases c2 : n < lo <;> simp [-List.length_flatMap, -List.map_take, eF, c1, c2, w2]
theorem missF_b {lo hi n : Int} (h1 : -10000000000 ≤ lo ∧ lo ≤ 10000000000) (h2 : -10000000000 ≤ hi ∧ hi ≤ 10000000000) (hn : -10000000000 ≤ n ∧ n ≤ 10000000000) : -20000000000 ≤ missF lo hi n ∧ missF lo hi n ≤ 20000000000 := by
  unfold missF; repeat' split
  all_goals omega
theorem missL_len (f : Fld) (m : Mdl) (l : List Mea) : (missL f m l).length = l.length := by simp [missL]
/-- Numbers that are laid where zeros stand. -/
theorem L_misses {f : Fld} {m : Mdl} {l : List Mea} (hm : Fm f m) (hl : l.length ≤ 12) (hx : ∀ x ∈ l, Mev f x) : ∀ (k i : Nat), i + k = l.length →
    WL T [3, 4, 7, 13, 14, 15] false f_field_Field_misses_l7 [(3, .cref [.int .i64 f.x, .int .i64 f.y, .int .i64 f.z, .int .i64 f.k]), (4, .cref [.str m.name, .lst m.vals.length (m.vals.flatMap intE)]), (7, .sl σ.length 0 0 0 l.length 1), (13, .lst l.length (l.flatMap Mea.enc)), (14, .int .i64 l.length), (15, .int .i64 i)]
      ([.cells 0 (((missL f m l).take i ++ List.replicate (l.length - i) 0).flatMap intE)] :: σ)
      (fun x e σ' => x = .exit 0 ∧ get e 7 = .sl σ.length 0 0 0 l.length 1 ∧ σ' = [.cells 0 ((missL f m l).flatMap intE)] :: σ)
  | 0, i, hi => by
    refine WL_step e_field_Field_misses_l7 ?_
    obtain rfl : i = l.length := by omega
    have h3 : (missL f m l).take l.length = missL f m l := List.take_of_length_le (by simp [missL])
    simp [-List.length_flatMap, -List.map_take, eF, h3]
  | k + 1, i, hi => by
    refine WL_step e_field_Field_misses_l7 ?_
    have h1 : i < l.length := by omega
    obtain ⟨x, hxi⟩ : ∃ x, l[i]? = some x := ⟨_, List.getElem?_eq_getElem h1⟩
    have hxv := hx x (List.mem_of_getElem? hxi)
    have hs := mev_sum hm hxv
    have hen := hxv.ends
    have h2 := meaE_at hxi
    have h4 := wnext h1 (by omega)
    have hW := fun σ => C_weighs (σ := σ) (f := f) (x := x)
    have hS := fun σ => C_scale (σ := σ) hm hxv
    have hM := fun σ => C_fmiss (σ := σ) (lo := x.lo) (hi := x.hi) (n := wsum f m x) (by omega) (by omega) (by omega)
    have ih := L_misses hm hl hx k (i + 1) (by omega)
    simp only [Mea.enc] at h2 hW
    have e1 : (missL f m l).take (i + 1) = (missL f m l).take i ++ [missF x.lo x.hi (wsum f m x)] := by
      rw [List.take_add_one]; simp [missL, hxi]
    have e2 : List.replicate (l.length - i) (0 : Int) = 0 :: List.replicate (l.length - (i + 1)) 0 := by
      rw [show l.length - i = (l.length - (i + 1)) + 1 from by omega]; rfl
    have e3 : ((missL f m l).take i).length = i := by simp [missL]; omega
    have e5 : (((missL f m l).take i).flatMap intE).length = i := by rw [int_len, e3]
    have e4 : ∀ (c d : D) (A B : List D), A.length = i → (A ++ c :: B).take i ++ d :: (A ++ c :: B).drop (i + 1) = A ++ d :: B := by
      intro c d A B hA; subst hA; simp
    rw [e2]
    rw [e1] at ih
    have e7 : i + 1 ≤ (((missL f m l).take i).flatMap intE).length + (((List.replicate (l.length - (i + 1)) (0 : Int)).flatMap intE).length + 1) := by omega
    have e6 := e4 (.int .i64 0) (.int .i64 (missF x.lo x.hi (wsum f m x))) (((missL f m l).take i).flatMap intE) ((List.replicate (l.length - (i + 1)) (0 : Int)).flatMap intE) e5
    simp [-List.length_flatMap, -List.map_take, eF, h1, h2, h4, hW, hS, hM, cl_int, e6, e7]
    exact WL.to ih (by simp) (by simp) fun x e σ hh => hh
theorem C_misses {f : Fld} {m : Mdl} {l : List Mea} (hm : Fm f m) (hl : l.length ≤ 12) (hx : ∀ x ∈ l, Mev f x) (hσ : σ ≠ []) :
    lim T (.call false i_field_Field_misses [.agg [.int .i64 f.x, .int .i64 f.y, .int .i64 f.z, .int .i64 f.k], .agg [.str m.name, .lst m.vals.length (m.vals.flatMap intE)], .lst l.length (l.flatMap Mea.enc)] σ) = some (.val (.lst l.length ((missL f m l).flatMap intE)) σ) := by
  refine call_of T_field_Field_misses e_field_Field_misses rfl ?_
  have h1 : l.length * 8 ≤ room := by unfold room; omega
  have h2 : ((List.range l.length).flatMap fun _ => [D.int .i64 0]) = (List.replicate l.length (0 : Int)).flatMap intE := by
    induction l.length with
    | zero => rfl
    | succ n ih => rw [List.range_succ, List.replicate_succ', List.flatMap_append, List.flatMap_append, ih]; rfl
  have h3 : (l.length : Int) * 8 ≤ room := by omega
  simp [-List.length_flatMap, -List.map_take, eF, h1, h2, h3]
  refine WL.to (L_misses (σ := σ) hm hl hx l.length 0 (by omega)) (by simp) (by simp) ?_
  rintro x e σ' ⟨rfl, g7, rfl⟩
  simp [-List.length_flatMap, -List.map_take, eF, g7]
  have := k_out (n := 16) (f := intE) (w := 1) (l := missL f m l) (j := 0) (v := 0) (bs := [.cells 0 ((missL f m l).flatMap intE)]) (by decide) (fun _ => rfl) (fun x => by simp) hσ rfl
  rw [missL_len] at this
  rw [this]
  exact ⟨_, rfl⟩
theorem C_nz {n : Int} : lim T (.call false i_field_Strikes_1 [.int .i64 n] σ) = some (.val (.bool (n != 0)) σ) := by
  refine call_of T_field_Strikes_1 e_field_Strikes_1 rfl ?_
  by_cases h : n = 0 <;> simp [-List.length_flatMap, -List.map_take, eF, h]
theorem C_idx {l : List Int} (hl : l.length ≤ 1000) : lim T (.call false i_slices_IndexFunc_int [.lst l.length (l.flatMap intE), .fn i_field_Strikes_1 [] []] σ) = some (.val (.int .i64 (idxOf (fun n => n != 0) l)) σ) :=
  index_of (eltInt .i64) (f := i_slices_IndexFunc_int) (l := l) (p := fun n => n != 0) (fv := .fn i_field_Strikes_1 [] []) rfl (by omega) (Tests.fn fun x _ σ => C_nz)
end Go.Proofs.YtehandllpmlcoaaGreat

/-
  Which models the measures leave.
-/
set_option linter.unusedVariables false
set_option linter.unusedSimpArgs false
set_option maxRecDepth 100000
namespace Go.Proofs.YtehandllpmlcoaaGreat
open Go Go.Abs Go.Rock
variable {σ : Stack}

theorem C_both1 {f : Fld} {l : List Mdl} (hf : f.valid = true) (hs : ∀ m ∈ l, m.name.length ≤ 1000000000 ∧ m.vals.length ≤ 1000000000) (hl : l.length ≤ 1000000000) :
    lim T (.call false i_field_both_1 [.cref [.int .i64 f.x, .int .i64 f.y, .int .i64 f.z, .int .i64 f.k], .cref [.lst l.length (l.flatMap Mdl.enc)]] σ) = some (.val (.int .i64 (f.models l)) σ) := by
  refine call_of T_field_both_1 e_field_both_1 rfl ?_
  simp [-List.length_flatMap, -List.map_take, eF, C_models hf hs hl]
theorem C_both2 {f : Fld} {l : List Mea} (hf : f.valid = true) (hs : shortM l) (hl : l.length ≤ 1000000000) :
    lim T (.call false i_field_both_2 [.cref [.int .i64 f.x, .int .i64 f.y, .int .i64 f.z, .int .i64 f.k], .cref [.lst l.length (l.flatMap Mea.enc)]] σ) = some (.val (.int .i64 (f.measures l)) σ) := by
  refine call_of T_field_both_2 e_field_both_2 rfl ?_
  simp [-List.length_flatMap, -List.map_take, eF, C_measures hf hs hl]
theorem C_both {f : Fld} {l : List Mdl} {ms : List Mea} (hf : f.valid = true) (hs : ∀ m ∈ l, m.name.length ≤ 1000000000 ∧ m.vals.length ≤ 1000000000) (hl : l.length ≤ 1000000000) (hms : shortM ms) (hml : ms.length ≤ 1000000000)
    (h1 : f.models l = 0) (h2 : f.measures ms = 0) :
    lim T (.call false i_field_both [.agg [.int .i64 f.x, .int .i64 f.y, .int .i64 f.z, .int .i64 f.k], .lst l.length (l.flatMap Mdl.enc), .lst ms.length (ms.flatMap Mea.enc)] σ) = some (.val (.int .i64 0) σ) := by
  refine call_of T_field_both e_field_both rfl ?_
  have hC := fun σ => C_first (σ := σ) (fs := [.fn i_field_Field_shape [.agg [.int .i64 f.x, .int .i64 f.y, .int .i64 f.z, .int .i64 f.k]] [], .fn i_field_both_1 [] [.cref [.int .i64 f.x, .int .i64 f.y, .int .i64 f.z, .int .i64 f.k], .cref [.lst l.length (l.flatMap Mdl.enc)]], .fn i_field_both_2 [] [.cref [.int .i64 f.x, .int .i64 f.y, .int .i64 f.z, .int .i64 f.k], .cref [.lst ms.length (ms.flatMap Mea.enc)]]]) (es := [0, 0, 0]) rfl (by simp) (by simp) (by
    intro i d n hd hn h0 σ
    match i with
    | 0 =>
      simp at hd hn
      subst hd hn
      simp [C_shape, Fld.shape, hf]
    | 1 =>
      simp at hd hn
      subst hd hn
      simp [C_both1 hf hs hl, h1]
    | 2 =>
      simp at hd hn
      subst hd hn
      simp [C_both2 hf hms hml, h2]
    | i + 3 => simp at hd)
  have e1 : firstE id [(0 : Int), 0, 0] = 0 := rfl
  rw [e1] at hC
  simp at hC
  simp [-List.length_flatMap, -List.map_take, eF, hC]

def triE (t : Int × Int × Int) : List D := [.int .i64 t.1, .int .i64 t.2.1, .int .i64 t.2.2]
theorem tri_len (l : List (Int × Int × Int)) : (l.flatMap triE).length = l.length * 3 := flat_len (f := triE) (w := 3) (fun _ => rfl) l
theorem idxOf_at {α : Type} {p : α → Bool} : ∀ {l : List α}, 0 ≤ idxOf p l → ∃ (k : Nat) (x : α), idxOf p l = k ∧ l[k]? = some x ∧ p x = true
  | [], h => by simp [idxOf] at h
  | x :: l, h => by
    simp only [idxOf] at h ⊢
    split
    · rename_i hp; exact ⟨0, x, rfl, rfl, hp⟩
    · rename_i hp
      rw [if_neg hp] at h
      split at h
      · omega
      · rename_i hn
        rw [if_neg hn]
        obtain ⟨k, y, h1, h2, h3⟩ := idxOf_at (p := p) (l := l) (by omega)
        exact ⟨k + 1, y, by rw [h1]; rfl, by simpa using h2, h3⟩
def fStr (f : Fld) (l : List Mea) : Nat → List Mdl → List (Int × Int × Int)
  | _, [] => []
  | i, m :: ms => if okF f l m then fStr f l (i + 1) ms else ((i : Int), idxOf (fun n => n != 0) (missL f m l), ((missL f m l)[(idxOf (fun n => n != 0) (missL f m l)).toNat]?).getD 0) :: fStr f l (i + 1) ms
theorem okF_neg {f : Fld} {l : List Mea} {m : Mdl} : okF f l m = true ↔ idxOf (fun n => n != 0) (missL f m l) < 0 := by
  rw [idxOf_neg]
  unfold okF
  rw [List.all_eq_not_any_not]
  simp [bne]
theorem L_fstrikes {f : Fld} {l : List Mdl} {ms : List Mea} (hm : ∀ m ∈ l, Fm f m) (hl : l.length ≤ 40) (hms : ms.length ≤ 12) (hx : ∀ x ∈ ms, Mev f x) (hσ : σ ≠ []) : ∀ (k i : Nat) (L : List Int) (S : List (Int × Int × Int)), i + k = l.length → L.length ≤ i → S.length ≤ i →
    WL T [2, 3, 6, 7, 21, 22, 23] false f_field_Strikes_l13 [(2, .lst ms.length (ms.flatMap Mea.enc)), (3, .cref [.int .i64 f.x, .int .i64 f.y, .int .i64 f.z, .int .i64 f.k]), (6, .sl σ.length 0 L.length 0 L.length 1), (7, .sl σ.length 1 S.length 0 S.length 3), (21, .lst l.length (l.flatMap Mdl.enc)), (22, .int .i64 l.length), (23, .int .i64 i)]
      ([.cells L.length (L.flatMap intE), .cells S.length (S.flatMap triE)] :: σ)
      (fun x e σ' => x = .exit 0 ∧ ∃ L' S', L' = L ++ idxs (okF f ms) i (l.drop i) ∧ S' = S ++ fStr f ms i (l.drop i) ∧ get e 6 = .sl σ.length 0 L'.length 0 L'.length 1 ∧ get e 7 = .sl σ.length 1 S'.length 0 S'.length 3 ∧ σ' = [.cells L'.length (L'.flatMap intE), .cells S'.length (S'.flatMap triE)] :: σ) := by
  intro k
  induction k with
  | zero =>
    intro i L S hi hL hS
    refine WL_step e_field_Strikes_l13 ?_
    have h1 : ¬ i < l.length := by omega
    have h2 : l.drop i = [] := List.drop_eq_nil_of_le (by omega)
    simp [-List.length_flatMap, -List.map_take, eF, h1, h2, idxs, fStr]
  | succ k ih0 =>
    intro i L S hi hL hS
    refine WL_step e_field_Strikes_l13 ?_
    have h1 : i < l.length := by omega
    obtain ⟨m, hmi⟩ : ∃ m, l[i]? = some m := ⟨_, List.getElem?_eq_getElem h1⟩
    have h2 := mdlE_at hmi
    have h4 := wnext h1 (by omega)
    have h5 := drop_at hmi
    have hM := fun σ hσ => C_misses (σ := σ) (hm m (List.mem_of_getElem? hmi)) hms hx hσ
    have ml := missL_len f m ms
    have hI := fun σ => C_idx (σ := σ) (l := missL f m ms) (by omega)
    rw [ml] at hI
    have a4 := int_len L
    have a6 : (L.flatMap intE).take L.length = L.flatMap intE := List.take_of_length_le (by omega)
    have a7 := tri_len S
    have a8 : (S.flatMap triE).take (S.length * 3) = S.flatMap triE := List.take_of_length_le (by omega)
    have h7 : (L.length + 1) * 8 ≤ room := by unfold room; omega
    have h8 : (S.length + 1) * 24 ≤ room := by unfold room; omega
    rw [h5]
    cases hc : okF f ms m
    · have hge : 0 ≤ idxOf (fun n => n != 0) (missL f m ms) := by
        have := mt okF_neg.2 (by rw [hc]; simp)
        omega
      obtain ⟨j, v, e1, e2, e3⟩ := idxOf_at hge
      have hj : j < ms.length := by rw [← ml]; exact (List.getElem?_eq_some_iff.1 e2).1
      have h9 := intE_at e2
      have ih := ih0 (i + 1) L (S ++ [((i : Int), (j : Int), v)]) (by omega) (by omega) (by simp; omega)
      simp only [idxs, fStr, hc, e1, Int.toNat_natCast, e2, Option.getD_some]
      rw [e1] at hI
      simp [-List.length_flatMap, -List.map_take, eF, h1, h2, h4, hM, hI, a7, a8, h8, h9, hj, ml, cl_int]
      exact WL.to ih (by simp) (by simp [triE]) fun x e σ hh => by simpa [List.append_assoc, hc, e1, e2] using hh
    · have hlt := okF_neg.1 hc
      have e1 : idxOf (fun n => n != 0) (missL f m ms) < 0 := hlt
      have ih := ih0 (i + 1) (L ++ [(i : Int)]) S (by omega) (by simp; omega) (by omega)
      simp only [idxs, fStr, hc, if_true]
      have e4 : ¬ 0 ≤ idxOf (fun n => n != 0) (missL f m ms) := by omega
      simp [-List.length_flatMap, -List.map_take, eF, h1, h2, h4, hM, hI, a4, a6, h7, e4, ml, cl_int]
      exact WL.to ih (by simp) (by simp) fun x e σ hh => by simpa [List.append_assoc, hc] using hh
theorem C_FStrikes {f : Fld} {l : List Mdl} {ms : List Mea} (hf : f.valid = true) (hs : ∀ m ∈ l, m.name.length ≤ 1000000000 ∧ m.vals.length ≤ 1000000000) (h1 : f.models l = 0) (hms : shortM ms) (h2 : f.measures ms = 0) (hm : ∀ m ∈ l, Fm f m) (hl : l.length ≤ 40) (hml : ms.length ≤ 12) (hx : ∀ x ∈ ms, Mev f x) (hσ : σ ≠ []) :
    lim T (.call false i_field_Strikes [.agg [.int .i64 f.x, .int .i64 f.y, .int .i64 f.z, .int .i64 f.k], .lst l.length (l.flatMap Mdl.enc), .lst ms.length (ms.flatMap Mea.enc)] σ) =
      some (.val (.tup [.lst (idxs (okF f ms) 0 l).length ((idxs (okF f ms) 0 l).flatMap intE), .lst (fStr f ms 0 l).length ((fStr f ms 0 l).flatMap triE), .int .i64 0]) σ) := by
  refine call_of T_field_Strikes e_field_Strikes rfl ?_
  have hB := fun σ => C_both (σ := σ) hf hs (by omega) hms (by omega) h1 h2
  simp [-List.length_flatMap, -List.map_take, eF, hB]
  refine WL.to (L_fstrikes (σ := σ) hm hl hml hx hσ l.length 0 [] [] (by omega) (by simp) (by simp)) (by simp) (by simp) ?_
  rintro x e σ' ⟨rfl, L, S, rfl, rfl, g6, g7, rfl⟩
  simp only [List.nil_append, List.drop_zero] at g6 g7 ⊢
  simp [-List.length_flatMap, -List.map_take, eF, g6, g7]
  rw [frz_tup (by rfl) (by omega)]
  simp only [frzL_cons, frzL_nil]
  rw [k_out (n := 15) (f := intE) (w := 1) (l := idxs (okF f ms) 0 l) (by decide) (fun _ => rfl) (fun x => by simp) hσ (by simp)]
  simp only [List.set_cons_succ, List.set_cons_zero]
  rw [k_out (n := 15) (f := triE) (w := 3) (l := fStr f ms 0 l) (by decide) (fun _ => rfl) (fun x => by simp [triE]) hσ (by simp)]
  rw [frz_clean (by rfl) (by omega)]
  exact ⟨_, rfl⟩
end Go.Proofs.YtehandllpmlcoaaGreat
