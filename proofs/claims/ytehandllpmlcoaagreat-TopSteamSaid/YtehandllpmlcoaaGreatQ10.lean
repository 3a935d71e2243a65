/-
  Whether a model fits, whether models do; what the law asks of its arguments.
-/
import Derived.Test.YtehandllpmlcoaaGreatQ9
set_option linter.unusedVariables false
set_option linter.unusedSimpArgs false
namespace Go.Proofs.YtehandllpmlcoaaGreat
open Go Go.Abs Go.Rock
variable {σ : Stack}

theorem C_RValue {b : Bed} {m : Mdl} (h : Mv b m) {k i : Nat} (hk : k < 4) (hi : i < b.n) : lim T (.call false i_ref05_Value [.agg [.int .i64 b.f.x, .int .i64 b.f.y, .int .i64 b.f.z, .int .i64 b.f.k, .lst b.tab.length (b.tab.flatMap Rw.enc), .int .i64 b.stiff, .int .i64 b.lift, .int .i64 b.deep, .lst b.wells.length (b.wells.flatMap Bore.enc)], .agg [.str m.name, .lst m.vals.length (m.vals.flatMap intE)], .int .i64 k, .int .i64 i] σ) = some (.val (.int .i64 (kindAt b m k i)) σ) := by
  refine call_of T_ref05_Value e_ref05_Value rfl ?_
  have hS := fun σ => C_RSize' (σ := σ) h.bv.fv
  have hsz : b.f.size = (b.n : Int) := h.bv.sz
  rw [hsz] at hS
  have hn := h.bv.n
  obtain ⟨g1, g2⟩ := h.le
  have hkn : k * b.n ≤ 3 * b.n := Nat.mul_le_mul_right _ (by omega)
  have hlt : k * b.n + i < m.vals.length := by omega
  have w1 := w64 (n := (k : Int) * (b.n : Int)) (by rw [← Int.natCast_mul]; omega)
  have w2 := w64 (n := (k : Int) * (b.n : Int) + i) (by rw [← Int.natCast_mul]; omega)
  obtain ⟨c, hc⟩ : ∃ c, m.vals[k * b.n + i]? = some c := ⟨_, List.getElem?_eq_getElem hlt⟩
  have e1 : kindAt b m k i = c := by simp [kindAt, hc]
  have h2 := intE_at hc
  have e2 : (k : Int) * (b.n : Int) + (i : Int) = ((k * b.n + i : Nat) : Int) := by push_cast; rfl
  have h3 : ((k * b.n + i : Nat) : Int) < (m.vals.length : Int) := by omega
  have h4 : (0 : Int) ≤ ((k * b.n + i : Nat) : Int) := by omega
  rw [e2] at w2
  rw [e1]
  generalize k * b.n + i = j at *
  simp [-List.length_flatMap, -List.map_take, eF, hS, w1, e2, w2, hlt, h2, cl_rw, cl_bore, cl_int]
def fitAt (b : Bed) (m : Mdl) (i : Nat) : Bool := inn (kindAt b m 0 i) 1000 100000 && (inn (kindAt b m 1 i) 0 1000 && (inn (kindAt b m 2 i) 0 3000 && inn (kindAt b m 3 i) 0 1000))
def fitTo (b : Bed) (m : Mdl) (i : Nat) : Nat → Bool
  | 0 => true
  | k + 1 => fitAt b m i && fitTo b m (i + 1) k
theorem fitTo_iff {b : Bed} {m : Mdl} : ∀ {k i : Nat}, fitTo b m i k = true ↔ ∀ j, i ≤ j → j < i + k → fitAt b m j = true
  | 0, i => by simp [fitTo]; omega
  | k + 1, i => by
    rw [fitTo, Bool.and_eq_true, fitTo_iff]
    constructor
    · intro ⟨h1, h2⟩ j h3 h4
      by_cases hj : j = i
      · subst hj; exact h1
      · exact h2 j (by omega) (by omega)
    · intro h
      exact ⟨h i (by omega) (by omega), fun j h3 h4 => h j (by omega) (by omega)⟩
theorem check1 {b : Bed} {m : Mdl} (h : Bv b) : checkModels b.f [m] = 0 ↔ b.f.model m = 0 := by
  simp only [checkModels, h.fv, if_true, Fld.models, Fld.each]
  have h1 : inn (([m] : List Mdl).length : Nat) 1 40 = true := by simp [inn]
  rw [if_pos h1]
  by_cases hc : b.f.model m = 0
  · simp [hc]
  · simp [hc]
theorem fits_eq {b : Bed} {m : Mdl} (h : Bv b) : fits b m = (decide (b.f.model m = 0) && fitTo b m 0 b.n) := by
  by_cases hc : b.f.model m = 0
  · have hm := Mv.of h ((check1 h).2 hc)
    have hcm := (check1 h).2 hc
    have key : ∀ {k : Nat} {lo hi : Int}, k < 4 → (allB (kindL b m k) (fun n => inn n lo hi) = true ↔ ∀ i, i < b.n → inn (kindAt b m k i) lo hi = true) := by
      intro k lo hi hk
      rw [allB_iff]
      constructor
      · intro ha i hi'; exact ha _ (List.mem_of_getElem? (kindL_at hm hk hi'))
      · intro ha x hx
        obtain ⟨i, hi'⟩ := List.getElem?_of_mem hx
        have hlt : i < b.n := by have := (List.getElem?_eq_some_iff.1 hi').1; rwa [kindL_len hm hk] at this
        rw [kindL_at hm hk hlt] at hi'
        cases hi'
        exact ha i hlt
    rw [Bool.eq_iff_iff]
    simp only [fits, hcm, hc, decide_true, Bool.true_and, Bool.and_eq_true, fitTo_iff, fitAt]
    rw [key (by decide), key (by decide), key (by decide), key (by decide)]
    constructor
    · intro ⟨h1, h2, h3, h4⟩ j _ hj
      exact ⟨h1 j (by omega), h2 j (by omega), h3 j (by omega), h4 j (by omega)⟩
    · intro hh
      exact ⟨fun i hi => (hh i (by omega) (by omega)).1, fun i hi => (hh i (by omega) (by omega)).2.1, fun i hi => (hh i (by omega) (by omega)).2.2.1, fun i hi => (hh i (by omega) (by omega)).2.2.2⟩
  · have hcm : ¬ checkModels b.f [m] = 0 := fun hh => hc ((check1 h).1 hh)
    simp [fits, hc, hcm]
theorem L_RFits {b : Bed} {m : Mdl} (h : Mv b m) : ∀ (k i : Nat), i + k = b.n →
    WL T [2, 3, 5] false f_ref05_Fits_l8 [(2, .cref [.int .i64 b.f.x, .int .i64 b.f.y, .int .i64 b.f.z, .int .i64 b.f.k, .lst b.tab.length (b.tab.flatMap Rw.enc), .int .i64 b.stiff, .int .i64 b.lift, .int .i64 b.deep, .lst b.wells.length (b.wells.flatMap Bore.enc)]), (3, .cref [.str m.name, .lst m.vals.length (m.vals.flatMap intE)]), (5, .int .i64 i)] σ
      (fun x e σ' => σ' = σ ∧ if fitTo b m i k then x = .exit 0 else x = .ret ∧ get e 4 = .bool false)
  | 0, i, hi => by
    refine WL_step e_ref05_Fits_l8 ?_
    have hS := fun σ => C_RSize' (σ := σ) h.bv.fv
    have hsz : b.f.size = (b.n : Int) := h.bv.sz
    rw [hsz] at hS
    have h1 : ¬ i < b.n := by omega
    simp [-List.length_flatMap, -List.map_take, eF, hS, h1, fitTo, cl_rw, cl_bore, cl_int]
  | k + 1, i, hi => by
    refine WL_step e_ref05_Fits_l8 ?_
    have hS := fun σ => C_RSize' (σ := σ) h.bv.fv
    have hsz : b.f.size = (b.n : Int) := h.bv.sz
    rw [hsz] at hS
    have hn := h.bv.n
    have h1 : i < b.n := by omega
    have h4 := wnext h1 (by omega)
    have v0 := fun σ => C_RValue (σ := σ) h (k := 0) (i := i) (by decide) h1
    have v1 := fun σ => C_RValue (σ := σ) h (k := 1) (i := i) (by decide) h1
    have v2 := fun σ => C_RValue (σ := σ) h (k := 2) (i := i) (by decide) h1
    have v3 := fun σ => C_RValue (σ := σ) h (k := 3) (i := i) (by decide) h1
    simp only [show ((0 : Nat) : Int) = 0 from rfl, show ((1 : Nat) : Int) = 1 from rfl, show ((2 : Nat) : Int) = 2 from rfl, show ((3 : Nat) : Int) = 3 from rfl] at v0 v1 v2 v3
    have ih := L_RFits h k (i + 1) (by omega)
    rw [fitTo, fitAt]
    cases c0 : inn (kindAt b m 0 i) 1000 100000
    · simp [-List.length_flatMap, -List.map_take, eF, hS, h1, h4, v0, C_In1, c0, cl_rw, cl_bore, cl_int]
    cases c1 : inn (kindAt b m 1 i) 0 1000
    · simp [-List.length_flatMap, -List.map_take, eF, hS, h1, h4, v0, v1, C_In1, c0, c1, cl_rw, cl_bore, cl_int]
    cases c2 : inn (kindAt b m 2 i) 0 3000
    · simp [-List.length_flatMap, -List.map_take, eF, hS, h1, h4, v0, v1, v2, C_In1, c0, c1, c2, cl_rw, cl_bore, cl_int]
    cases c3 : inn (kindAt b m 3 i) 0 1000
    · simp [-List.length_flatMap, -List.map_take, eF, hS, h1, h4, v0, v1, v2, v3, C_In1, c0, c1, c2, c3, cl_rw, cl_bore, cl_int]
    simp [-List.length_flatMap, -List.map_take, eF, hS, h1, h4, v0, v1, v2, v3, C_In1, c0, c1, c2, c3, cl_rw, cl_bore, cl_int]
    exact WL.to ih (by simp) rfl fun x e σ' hh => by simpa using hh
theorem C_RFits {b : Bed} {m : Mdl} (h : Bv b) (hn : m.name.length ≤ 9223372036854775807) (hl : m.vals.length ≤ 9223372036854775807) : lim T (.call false i_ref05_Fits [.agg [.int .i64 b.f.x, .int .i64 b.f.y, .int .i64 b.f.z, .int .i64 b.f.k, .lst b.tab.length (b.tab.flatMap Rw.enc), .int .i64 b.stiff, .int .i64 b.lift, .int .i64 b.deep, .lst b.wells.length (b.wells.flatMap Bore.enc)], .agg [.str m.name, .lst m.vals.length (m.vals.flatMap intE)]] σ) = some (.val (.bool (fits b m)) σ) := by
  refine call_of T_ref05_Fits e_ref05_Fits rfl ?_
  have hM := fun σ => C_RModel (σ := σ) (m := m) h.fv hn hl
  rw [fits_eq h]
  by_cases hc : b.f.model m = 0
  · have hm := Mv.of h ((check1 h).2 hc)
    simp [-List.length_flatMap, -List.map_take, eF, hM, hc, cl_rw, cl_bore, cl_int]
    refine WL.to (L_RFits (σ := [] :: σ) hm b.n 0 (by omega)) (by simp) (by simp) ?_
    rintro x e σ' ⟨rfl, hh⟩
    cases hf : fitTo b m 0 b.n
    · simp [hf] at hh
      simp [hh, hc]
    · simp [hf] at hh
      simp [-List.length_flatMap, -List.map_take, eF, hh, hc]
  · simp [-List.length_flatMap, -List.map_take, eF, hM, hc, cl_rw, cl_bore, cl_int]
def mfault (b : Bed) (l : List Mdl) : Int := if inn l.length 1 40 then (if b.f.models l = 0 then (if allB l (fits b) then 0 else 1) else 1) else 3
theorem L_RMF {b : Bed} {l : List Mdl} (h : Bv b) (hs : ∀ m ∈ l, m.name.length ≤ 9223372036854775807 ∧ m.vals.length ≤ 9223372036854775807) (hl : l.length ≤ 9223372036854775807) : ∀ (k i : Nat), i + k = l.length →
    WL T [1, 2, 5] false f_ref05_ModelsFault_l10 [(1, .lst l.length (l.flatMap Mdl.enc)), (2, .cref [.int .i64 b.f.x, .int .i64 b.f.y, .int .i64 b.f.z, .int .i64 b.f.k, .lst b.tab.length (b.tab.flatMap Rw.enc), .int .i64 b.stiff, .int .i64 b.lift, .int .i64 b.deep, .lst b.wells.length (b.wells.flatMap Bore.enc)]), (5, .int .i64 i)] σ
      (fun x e σ' => σ' = σ ∧ if allB (l.drop i) (fits b) then x = .exit 0 else x = .ret ∧ get e 4 = .int .i64 1)
  | 0, i, hi => by
    refine WL_step e_ref05_ModelsFault_l10 ?_
    have h1 : ¬ i < l.length := by omega
    have h2 : l.drop i = [] := List.drop_eq_nil_of_le (by omega)
    simp [-List.length_flatMap, -List.map_take, eF, h1, h2, allB]
  | k + 1, i, hi => by
    refine WL_step e_ref05_ModelsFault_l10 ?_
    have h1 : i < l.length := by omega
    obtain ⟨m, hm⟩ : ∃ m, l[i]? = some m := ⟨_, List.getElem?_eq_getElem h1⟩
    have h2 := mdlE_at hm
    have h4 := wnext h1 (by omega)
    have h5 := drop_at hm
    obtain ⟨hs1, hs2⟩ := hs m (List.mem_of_getElem? hm)
    have hC := fun σ => C_RFits (σ := σ) h hs1 hs2
    have ih := L_RMF h hs hl k (i + 1) (by omega)
    rw [h5, allB_cons]
    cases hc : fits b m
    · simp [-List.length_flatMap, -List.map_take, eF, h1, h2, h4, hC, hc, cl_rw, cl_bore, cl_int]
    · simp [-List.length_flatMap, -List.map_take, eF, h1, h2, h4, hC, hc, cl_rw, cl_bore, cl_int]
      exact WL.to ih (by simp) rfl fun x e σ' hh => by simpa [hc] using hh
theorem C_RMF {b : Bed} {l : List Mdl} (h : Bv b) (hs : ∀ m ∈ l, m.name.length ≤ 9223372036854775807 ∧ m.vals.length ≤ 9223372036854775807) (hl : l.length ≤ 9223372036854775807) :
    lim T (.call false i_ref05_ModelsFault [.agg [.int .i64 b.f.x, .int .i64 b.f.y, .int .i64 b.f.z, .int .i64 b.f.k, .lst b.tab.length (b.tab.flatMap Rw.enc), .int .i64 b.stiff, .int .i64 b.lift, .int .i64 b.deep, .lst b.wells.length (b.wells.flatMap Bore.enc)], .lst l.length (l.flatMap Mdl.enc)] σ) = some (.val (.int .i64 (mfault b l)) σ) := by
  refine call_of T_ref05_ModelsFault e_ref05_ModelsFault rfl ?_
  unfold mfault
  have hM := fun σ => C_RModels (σ := σ) h.fv hs hl
  by_cases h1 : l.length < 1
  · have h0 : l = [] := List.length_eq_zero_iff.1 (by omega)
    subst h0
    simp [-List.length_flatMap, -List.map_take, eF, inn, cl_rw, cl_bore, cl_int]
  by_cases h2 : 40 < l.length
  · have hi : inn l.length 1 40 = false := by simp [inn]; omega
    simp [-List.length_flatMap, -List.map_take, eF, hi, show ¬ (l.length : Int) < 1 by omega, show (40 : Int) < l.length by omega, cl_rw, cl_bore, cl_int]
  have hi : inn l.length 1 40 = true := inn_iff.2 (by omega)
  have hne : l ≠ [] := fun h => h1 (by rw [h]; decide)
  by_cases h3 : b.f.models l = 0
  · simp [-List.length_flatMap, -List.map_take, eF, hi, show ¬ (l.length : Int) < 1 by omega, show ¬ (40 : Int) < l.length by omega, hne, hM, h3, cl_rw, cl_bore, cl_int]
    refine WL.to (L_RMF (σ := [] :: σ) h hs hl l.length 0 (by omega)) (by simp) (by simp) ?_
    rintro x e σ' ⟨rfl, hh⟩
    simp only [List.drop_zero] at hh
    cases hc : allB l (fits b)
    · simp [hc] at hh
      simp [hh, hi, h3]
    · simp [hc] at hh
      simp [-List.length_flatMap, -List.map_take, eF, hh, hi, h3]
  · simp [-List.length_flatMap, -List.map_take, eF, hi, show ¬ (l.length : Int) < 1 by omega, show ¬ (40 : Int) < l.length by omega, hne, hM, h3, cl_rw, cl_bore, cl_int]
def runOk (b : Bed) (l : List Mdl) (plan : List (List Int)) : Bool := b.valid && (decide (l.length ≤ 4) && (decide (mfault b l = 0) && (decide (plan.length ≤ 6) && decide (planE b plan = 0))))
theorem C_run {b : Bed} {l : List Mdl} {plan : List (List Int)} (h1 : b.tab.length ≤ 9223372036854775807) (h2 : b.wells.length ≤ 9223372036854775807) (hs : ∀ m ∈ l, m.name.length ≤ 9223372036854775807 ∧ m.vals.length ≤ 9223372036854775807) (hl : l.length ≤ 9223372036854775807) (hp : plan.length ≤ 9223372036854775807) (hr : ∀ l ∈ plan, l.length ≤ 9223372036854775807) :
    lim T (.call false i_top_run [.agg [.int .i64 b.f.x, .int .i64 b.f.y, .int .i64 b.f.z, .int .i64 b.f.k, .lst b.tab.length (b.tab.flatMap Rw.enc), .int .i64 b.stiff, .int .i64 b.lift, .int .i64 b.deep, .lst b.wells.length (b.wells.flatMap Bore.enc)], .lst l.length (l.flatMap Mdl.enc), .lst plan.length (plan.flatMap inL)] σ) = some (.val (.bool (runOk b l plan)) σ) := by
  refine call_of T_top_run e_top_run rfl ?_
  have hB := fun σ => C_RBed (σ := σ) h1 h2
  unfold runOk
  cases c1 : b.valid
  · simp [-List.length_flatMap, -List.map_take, eF, hB, c1, cl_rw, cl_bore, cl_int]
  have hb := Bv.of c1
  have hM := fun σ => C_RMF (σ := σ) hb hs hl
  have hP := fun σ => C_RPlan (σ := σ) (b := b) hp hr
  by_cases c2 : l.length ≤ 4
  rotate_left
  · simp [-List.length_flatMap, -List.map_take, eF, hB, c1, c2, show ¬ (l.length : Int) ≤ 4 by omega, cl_rw, cl_bore, cl_int]
  by_cases c3 : mfault b l = 0
  rotate_left
  · simp [-List.length_flatMap, -List.map_take, eF, hB, c1, c2, show (l.length : Int) ≤ 4 by omega, hM, c3, cl_rw, cl_bore, cl_int]
  by_cases c4 : plan.length ≤ 6
  rotate_left
  · simp [-List.length_flatMap, -List.map_take, eF, hB, c1, c2, show (l.length : Int) ≤ 4 by omega, hM, c3, c4, show ¬ (plan.length : Int) ≤ 6 by omega, cl_rw, cl_bore, cl_int]
  by_cases c5 : planE b plan = 0 <;> simp [-List.length_flatMap, -List.map_take, eF, hB, c1, c2, show (l.length : Int) ≤ 4 by omega, hM, c3, c4, show (plan.length : Int) ≤ 6 by omega, hP, c5, cl_rw, cl_bore, cl_int]
end Go.Proofs.YtehandllpmlcoaaGreat
