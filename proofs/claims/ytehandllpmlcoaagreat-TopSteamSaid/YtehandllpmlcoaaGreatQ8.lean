/-
  What the reference's functions on tables, beds and plans answer.
-/
import Derived.Test.YtehandllpmlcoaaGreatQ7
set_option linter.unusedVariables false
set_option linter.unusedSimpArgs false
namespace Go.Proofs.YtehandllpmlcoaaGreat
open Go Go.Abs Go.Rock
variable {σ : Stack}

def risesO : Option Rw → Rw → Bool
  | some o, r => o.rises r
  | none, _ => true
/-- The rows of a table one by one, each with the one ahead of it. -/
def rowsOk (o : Option Rw) : List Rw → Bool
  | [] => true
  | r :: l => r.alone && (risesO o r && rowsOk (some r) l)
theorem rowsOk_cons {o : Option Rw} {r : Rw} {l : List Rw} : rowsOk o (r :: l) = (r.alone && (risesO o r && rowsOk (some r) l)) := rfl
theorem rowsOk_some (l : List Rw) : ∀ o, rowsOk (some o) l = (allB l Rw.alone && risesB (o :: l)) := by
  induction l with
  | nil => intro o; simp [rowsOk, allB, risesB]
  | cons r l ih =>
    intro o
    rw [rowsOk_cons, ih, allB_cons, risesB]
    show (r.alone && (o.rises r && (allB l Rw.alone && risesB (r :: l)))) = (r.alone && allB l Rw.alone && (o.rises r && risesB (r :: l)))
    cases r.alone <;> cases o.rises r <;> cases allB l Rw.alone <;> simp
theorem rowsOk_none (l : List Rw) : rowsOk none l = (allB l Rw.alone && risesB l) := by
  cases l with
  | nil => simp [rowsOk, allB, risesB]
  | cons r l => rw [rowsOk_cons, rowsOk_some, allB_cons]; cases r.alone <;> rfl
def befo (t : List Rw) : Nat → Option Rw
  | 0 => none
  | i + 1 => t[i]?
theorem L_TRight {t : List Rw} (hl : t.length ≤ 9223372036854775807) : ∀ (m i : Nat), i + m = t.length →
    WL T [0, 3] false f_ref01_Right_l9 [(0, .lst t.length (t.flatMap Rw.enc)), (3, .int .i64 i)] σ
      (fun x e σ' => σ' = σ ∧ if rowsOk (befo t i) (t.drop i) then x = .exit 0 ∧ get e 0 = .lst t.length (t.flatMap Rw.enc) else x = .ret ∧ get e 2 = .bool false)
  | 0, i, hi => by
    refine WL_step e_ref01_Right_l9 ?_
    have h1 : ¬ i < t.length := by omega
    have h2 : t.drop i = [] := List.drop_eq_nil_of_le (by omega)
    simp [-List.length_flatMap, -List.map_take, eF, h1, h2, rowsOk]
  | m + 1, i, hi => by
    refine WL_step e_ref01_Right_l9 ?_
    have h1 : i < t.length := by omega
    obtain ⟨r, hr⟩ : ∃ r, t[i]? = some r := ⟨_, List.getElem?_eq_getElem h1⟩
    have h2 := flat_at (f := Rw.enc) (w := 5) (fun _ => rfl) hr
    have h4 := wnext h1 (by omega)
    have h5 := drop_at hr
    have ih := L_TRight hl m (i + 1) (by omega)
    rw [show befo t (i + 1) = some r from hr] at ih
    rw [h5, rowsOk_cons]
    cases c1 : inn r.t 0 400
    · simp [-List.length_flatMap, -List.map_take, eF, h1, h2, h4, C_In1, c1, Rw.alone]
    cases c2 : inn r.p 1 10000
    · simp [-List.length_flatMap, -List.map_take, eF, h1, h2, h4, C_In1, c1, c2, Rw.alone]
    cases c3 : inn r.l 0 4000
    · simp [-List.length_flatMap, -List.map_take, eF, h1, h2, h4, C_In1, c1, c2, c3, Rw.alone]
    cases c4 : inn r.s 0 2000
    · simp [-List.length_flatMap, -List.map_take, eF, h1, h2, h4, C_In1, c1, c2, c3, c4, Rw.alone]
    by_cases c5 : r.l < r.v
    rotate_left
    · simp [-List.length_flatMap, -List.map_take, eF, h1, h2, h4, C_In1, c1, c2, c3, c4, c5, show r.v ≤ r.l by omega, Rw.alone]
    have c5' : ¬ r.v ≤ r.l := by omega
    by_cases c6 : r.v ≤ 4000
    rotate_left
    · simp [-List.length_flatMap, -List.map_take, eF, h1, h2, h4, C_In1, c1, c2, c3, c4, c5, c5', c6, show 4000 < r.v by omega, Rw.alone]
    have c6' : ¬ 4000 < r.v := by omega
    have ha : r.alone = true := by simp [Rw.alone, c1, c2, c3, c4, c5, c6]
    rw [ha]
    cases i with
    | zero =>
      rw [show risesO (befo t 0) r = true from rfl]
      have h2' : (t.flatMap Rw.enc).take 5 = [.int .i64 r.t, .int .i64 r.p, .int .i64 r.l, .int .i64 r.v, .int .i64 r.s] := by simpa using h2
      have h1' : 0 < t.length := by omega
      have hr0 : t[0]? = some r := hr
      simp [-List.length_flatMap, -List.map_take, eF, h1', h2', h4, C_In1, c1, c2, c3, c4, c5, c5', c6, c6']
      exact WL.to ih (by simp) (by simp) fun x e σ' hh => by simpa [hr0] using hh
    | succ j =>
      obtain ⟨o, ho⟩ : ∃ r, t[j]? = some r := ⟨_, List.getElem?_eq_getElem (by omega)⟩
      have h3 := flat_at (f := Rw.enc) (w := 5) (fun _ => rfl) ho
      rw [show befo t (j + 1) = some o from ho, show risesO (some o) r = o.rises r from rfl]
      have w1 := w64 (n := (j : Int)) (by omega)
      have w2 := w64 (n := (j : Int) + 1 + 1) (by omega)
      have hj : j < t.length := by omega
      have e1 : (j : Int) + 1 - 1 = j := by omega
      have hA : (j : Int) + 1 < (t.length : Int) := by omega
      have hB : (0 : Int) ≤ (j : Int) + 1 := by omega
      have hC : ((j : Int) + 1).toNat = j + 1 := by omega
      have hD : (0 : Int) < (j : Int) + 1 := by omega
      by_cases d1 : r.t ≤ o.t
      · simp [-List.length_flatMap, -List.map_take, eF, h1, h2, h3, h4, C_In1, c1, c2, c3, c4, c5, c5', c6, c6', e1, w1, hj, hA, hB, hC, hD, d1, Rw.rises]
      by_cases d2 : r.p ≤ o.p
      · simp [-List.length_flatMap, -List.map_take, eF, h1, h2, h3, h4, C_In1, c1, c2, c3, c4, c5, c5', c6, c6', e1, w1, hj, hA, hB, hC, hD, d1, d2, Rw.rises]
      by_cases d3 : r.l ≤ o.l
      · simp [-List.length_flatMap, -List.map_take, eF, h1, h2, h3, h4, C_In1, c1, c2, c3, c4, c5, c5', c6, c6', e1, w1, hj, hA, hB, hC, hD, d1, d2, d3, Rw.rises]
      by_cases d4 : r.s < o.s
      · simp [-List.length_flatMap, -List.map_take, eF, h1, h2, h3, h4, C_In1, c1, c2, c3, c4, c5, c5', c6, c6', e1, w1, hj, hA, hB, hC, hD, d1, d2, d3, d4, Rw.rises]
      have hrs : o.rises r = true := by simp [Rw.rises, d1, d2, d3, d4]
      simp [-List.length_flatMap, -List.map_take, eF, h1, h2, h3, h4, C_In1, c1, c2, c3, c4, c5, c5', c6, c6', e1, w1, hj, hA, hB, hC, hD, d1, d2, d3, d4, hrs, w2]
      exact WL.to ih (by simp) (by simp [w2]) fun x e σ' hh => by simpa [hrs] using hh
theorem C_TRight {t : List Rw} (hl : t.length ≤ 9223372036854775807) : lim T (.call false i_ref01_Right [.lst t.length (t.flatMap Rw.enc)] σ) = some (.val (.bool (tabOk t)) σ) := by
  refine call_of T_ref01_Right e_ref01_Right rfl ?_
  simp [-List.length_flatMap, -List.map_take, eF]
  refine WL.to (L_TRight (σ := [] :: σ) hl t.length 0 (by omega)) (by simp) rfl ?_
  rintro x e σ' ⟨rfl, h⟩
  simp only [List.drop_zero, befo, rowsOk_none] at h
  unfold tabOk
  cases hc : (allB t Rw.alone && risesB t)
  · simp [hc] at h
    simp [h]
  · simp only [hc, if_true] at h
    obtain ⟨rfl, g0⟩ := h
    by_cases h1 : 2 ≤ t.length
    · by_cases h2 : t.length ≤ 20
      · simp [-List.length_flatMap, -List.map_take, eF, g0, inn, show (2 : Int) ≤ t.length by omega, show (t.length : Int) ≤ 20 by omega, h1, h2]
      · simp [-List.length_flatMap, -List.map_take, eF, g0, inn, show (2 : Int) ≤ t.length by omega, show ¬ (t.length : Int) ≤ 20 by omega, h1, h2]
    · simp [-List.length_flatMap, -List.map_take, eF, g0, inn, show ¬ (2 : Int) ≤ t.length by omega, h1]

/-! ### Rates and plans -/
theorem L_RRates {l : List Int} (hl : l.length ≤ 9223372036854775807) : ∀ (k i : Nat), i + k = l.length →
    WL T [1, 5] false f_ref05_RatesFault_l8 [(1, .lst l.length (l.flatMap intE)), (5, .int .i64 i)] σ
      (fun x e σ' => σ' = σ ∧ if allB (l.drop i) (fun n => inn n (-100000) 100000) then x = .exit 0 else x = .ret ∧ get e 4 = .int .i64 2)
  | 0, i, hi => by
    refine WL_step e_ref05_RatesFault_l8 ?_
    have h1 : ¬ i < l.length := by omega
    have h2 : l.drop i = [] := List.drop_eq_nil_of_le (by omega)
    simp [-List.length_flatMap, -List.map_take, eF, h1, h2, allB]
  | k + 1, i, hi => by
    refine WL_step e_ref05_RatesFault_l8 ?_
    have h1 : i < l.length := by omega
    obtain ⟨c, hc⟩ : ∃ c, l[i]? = some c := ⟨_, List.getElem?_eq_getElem h1⟩
    have h2 := intE_at hc
    have h4 := wnext h1 (by omega)
    have h5 := drop_at hc
    have ih := L_RRates hl k (i + 1) (by omega)
    rw [h5, allB_cons]
    cases hb : inn c (-100000) 100000
    · simp [-List.length_flatMap, -List.map_take, eF, h1, h2, h4, C_In1, hb]
    · simp [-List.length_flatMap, -List.map_take, eF, h1, h2, h4, C_In1, hb]
      exact WL.to ih (by simp) rfl fun x e σ' hh => by simpa [hb] using hh
theorem C_RRates {b : Bed} {l : List Int} (hl : l.length ≤ 9223372036854775807) : lim T (.call false i_ref05_RatesFault [.agg [.int .i64 b.f.x, .int .i64 b.f.y, .int .i64 b.f.z, .int .i64 b.f.k, .lst b.tab.length (b.tab.flatMap Rw.enc), .int .i64 b.stiff, .int .i64 b.lift, .int .i64 b.deep, .lst b.wells.length (b.wells.flatMap Bore.enc)], .lst l.length (l.flatMap intE)] σ) = some (.val (.int .i64 (ratesE b l)) σ) := by
  refine call_of T_ref05_RatesFault e_ref05_RatesFault rfl ?_
  unfold ratesE
  by_cases hc1 : l.length = b.wells.length
  · simp [-List.length_flatMap, -List.map_take, eF, hc1, cl_rw, cl_bore]
    rw [← hc1]
    refine WL.to (L_RRates (σ := [] :: σ) hl l.length 0 (by omega)) (by simp) (by simp) ?_
    rintro x e σ' ⟨rfl, h⟩
    simp only [List.drop_zero] at h
    cases hc2 : allB l (fun n => inn n (-100000) 100000)
    · simp [hc2] at h
      simp [h]
    · simp [hc2] at h
      simp [-List.length_flatMap, -List.map_take, eF, h]
  · simp [-List.length_flatMap, -List.map_take, eF, hc1, show ¬ (l.length : Int) = b.wells.length by omega, cl_rw, cl_bore]
theorem L_RPlan {b : Bed} {plan : List (List Int)} (hl : plan.length ≤ 9223372036854775807) (hs : ∀ l ∈ plan, l.length ≤ 9223372036854775807) : ∀ (m i : Nat), i + m = plan.length →
    WL T [1, 2, 5] false f_ref05_PlanFault_l9 [(1, .lst plan.length (plan.flatMap inL)), (2, .cref [.int .i64 b.f.x, .int .i64 b.f.y, .int .i64 b.f.z, .int .i64 b.f.k, .lst b.tab.length (b.tab.flatMap Rw.enc), .int .i64 b.stiff, .int .i64 b.lift, .int .i64 b.deep, .lst b.wells.length (b.wells.flatMap Bore.enc)]), (5, .int .i64 i)] σ
      (fun x e σ' => σ' = σ ∧ if firstE (ratesE b) (plan.drop i) = 0 then x = .exit 0 else x = .ret ∧ get e 4 = .int .i64 (firstE (ratesE b) (plan.drop i)))
  | 0, i, hi => by
    refine WL_step e_ref05_PlanFault_l9 ?_
    have h1 : ¬ i < plan.length := by omega
    have h2 : plan.drop i = [] := List.drop_eq_nil_of_le (by omega)
    simp [-List.length_flatMap, -List.map_take, eF, h1, h2, firstE]
  | m + 1, i, hi => by
    refine WL_step e_ref05_PlanFault_l9 ?_
    have h1 : i < plan.length := by omega
    obtain ⟨l, hx⟩ : ∃ l, plan[i]? = some l := ⟨_, List.getElem?_eq_getElem h1⟩
    have h2 := flat_at (f := inL) (w := 1) (fun _ => rfl) hx
    simp only [inL, Nat.mul_one] at h2
    have h4 := wnext h1 (by omega)
    have h5 := drop_at hx
    have hC := fun σ => C_RRates (σ := σ) (b := b) (l := l) (hs l (List.mem_of_getElem? hx))
    rw [h5, firstE]
    have ih := L_RPlan (b := b) hl hs m (i + 1) (by omega)
    by_cases hc : ratesE b l = 0
    · simp [-List.length_flatMap, -List.map_take, eF, h1, h2, h4, hC, hc, inL]
      exact WL.to ih (by simp [inL]) rfl fun x e σ' hh => by simpa [hc] using hh
    · simp [-List.length_flatMap, -List.map_take, eF, h1, h2, h4, hC, hc, inL]
theorem C_RPlan {b : Bed} {plan : List (List Int)} (hl : plan.length ≤ 9223372036854775807) (hs : ∀ l ∈ plan, l.length ≤ 9223372036854775807) :
    lim T (.call false i_ref05_PlanFault [.agg [.int .i64 b.f.x, .int .i64 b.f.y, .int .i64 b.f.z, .int .i64 b.f.k, .lst b.tab.length (b.tab.flatMap Rw.enc), .int .i64 b.stiff, .int .i64 b.lift, .int .i64 b.deep, .lst b.wells.length (b.wells.flatMap Bore.enc)], .lst plan.length (plan.flatMap inL)] σ) = some (.val (.int .i64 (planE b plan)) σ) := by
  refine call_of T_ref05_PlanFault e_ref05_PlanFault rfl ?_
  unfold planE
  by_cases hc : 200 < plan.length
  · simp [-List.length_flatMap, -List.map_take, eF, hc, show (200 : Int) < plan.length by omega, cl_rw, cl_bore]
  · simp [-List.length_flatMap, -List.map_take, eF, hc, show ¬ (200 : Int) < plan.length by omega, cl_rw, cl_bore]
    refine WL.to (L_RPlan (σ := [] :: σ) (b := b) hl hs plan.length 0 (by omega)) (by simp) (by simp) ?_
    rintro x e σ' ⟨rfl, h⟩
    simp only [List.drop_zero] at h
    by_cases hc2 : firstE (ratesE b) plan = 0
    · rw [if_pos hc2] at h
      subst h
      simp [-List.length_flatMap, -List.map_take, eF, hc2, show plan.length ≤ 200 by omega]
    · rw [if_neg hc2] at h
      obtain ⟨rfl, h⟩ := h
      simp [h, show ¬ 200 < plan.length by omega]
end Go.Proofs.YtehandllpmlcoaaGreat
