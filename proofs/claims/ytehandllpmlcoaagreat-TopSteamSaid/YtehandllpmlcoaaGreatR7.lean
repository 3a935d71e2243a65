/-
  Whether a model fits; a bed with a model; rates and plans; the first state; weights and pressures.
-/
import Derived.Test.YtehandllpmlcoaaGreatR6
set_option linter.unusedVariables false
set_option linter.unusedSimpArgs false
namespace Go.Proofs.YtehandllpmlcoaaGreat
open Go Go.Abs Go.Rock
variable {σ : Stack}

theorem Mv.of {b : Bed} {m : Mdl} (h : Bv b) (hc : checkModels b.f [m] = 0) : Mv b m := by
  refine ⟨h, ?_⟩
  simp only [checkModels, h.fv, if_true, Fld.models] at hc
  have h1 : inn (([m] : List Mdl).length : Nat) 1 40 = true := by simp [inn]
  rw [if_pos h1] at hc
  simp only [Fld.each] at hc
  split at hc
  · rename_i hm
    unfold Fld.model at hm
    split at hm
    · split at hm
      · rename_i hh; exact hh.1
      · cases hm
    · cases hm
  · rename_i hm; exact absurd hc hm
theorem C_fits {b : Bed} {m : Mdl} (h : Bv b) (hn : m.name.length ≤ 1000000000) (hl : m.vals.length ≤ 1000000000) : lim T (.call false i_rock_bedded_fits [.agg [.int .i64 b.f.x, .int .i64 b.f.y, .int .i64 b.f.z, .int .i64 b.f.k, .lst b.tab.length (b.tab.flatMap Rw.enc), .int .i64 b.stiff, .int .i64 b.lift, .int .i64 b.deep, .lst b.wells.length (b.wells.flatMap Bore.enc), .str m.name, .lst m.vals.length (m.vals.flatMap intE)]] σ) = some (.val (.bool (fits b m)) σ) := by
  refine call_of T_rock_bedded_fits e_rock_bedded_fits rfl ?_
  have hC := fun σ => C_CheckModels (σ := σ) (f := b.f) (l := [m]) (by simpa using ⟨hn, hl⟩) (by simp)
  simp at hC
  by_cases hc : checkModels b.f [m] = 0
  · have hm := Mv.of h hc
    simp [-List.length_flatMap, -List.map_take, eF, hC, hc]
    refine WL.to (L_fits (σ := [] :: σ) hm 4 0 (by omega)) (by simp) rfl ?_
    rintro x e σ' ⟨rfl, hh⟩
    have he : fitsFrom b m 0 4 = fits b m := by
      simp [fitsFrom, fits, hc, rgOf]
    rw [he] at hh
    cases hf : fits b m
    · rw [hf] at hh
      simp at hh
      simp [hh]
    · rw [hf] at hh
      simp at hh
      subst hh
      simp [-List.length_flatMap, -List.map_take, eF]
  · simp [-List.length_flatMap, -List.map_take, eF, hC, hc, fits]
theorem C_bed {b : Bed} {m : Mdl} (h1 : b.tab.length ≤ 1000000000) (h2 : b.wells.length ≤ 1000000000) (hn : m.name.length ≤ 1000000000) (hl : m.vals.length ≤ 1000000000) (hb : Bd b m = true) :
    lim T (.call false i_rock_bed [.agg [.int .i64 b.f.x, .int .i64 b.f.y, .int .i64 b.f.z, .int .i64 b.f.k, .lst b.tab.length (b.tab.flatMap Rw.enc), .int .i64 b.stiff, .int .i64 b.lift, .int .i64 b.deep, .lst b.wells.length (b.wells.flatMap Bore.enc)], .agg [.str m.name, .lst m.vals.length (m.vals.flatMap intE)]] σ) = some (.val (.tup [.agg [.int .i64 b.f.x, .int .i64 b.f.y, .int .i64 b.f.z, .int .i64 b.f.k, .lst b.tab.length (b.tab.flatMap Rw.enc), .int .i64 b.stiff, .int .i64 b.lift, .int .i64 b.deep, .lst b.wells.length (b.wells.flatMap Bore.enc), .str m.name, .lst m.vals.length (m.vals.flatMap intE)], .int .i64 0]) σ) := by
  refine call_of T_rock_bed e_rock_bed rfl ?_
  simp only [Bd, Bool.and_eq_true] at hb
  have hf := fun σ => C_fits (σ := σ) (Bv.of hb.1) hn hl
  simp [-List.length_flatMap, -List.map_take, eF, C_bvalid h1 h2, hb.1, hf, hb.2, cl_rw, cl_bore, cl_int]
theorem C_bedNo {b : Bed} {m : Mdl} (h1 : b.tab.length ≤ 1000000000) (h2 : b.wells.length ≤ 1000000000) (hn : m.name.length ≤ 1000000000) (hl : m.vals.length ≤ 1000000000) (hb : Bd b m = false) : ∃ d,
    lim T (.call false i_rock_bed [.agg [.int .i64 b.f.x, .int .i64 b.f.y, .int .i64 b.f.z, .int .i64 b.f.k, .lst b.tab.length (b.tab.flatMap Rw.enc), .int .i64 b.stiff, .int .i64 b.lift, .int .i64 b.deep, .lst b.wells.length (b.wells.flatMap Bore.enc)], .agg [.str m.name, .lst m.vals.length (m.vals.flatMap intE)]] σ) = some (.val (.tup [.agg d, .int .i64 1]) σ) ∧ d.length = 11 ∧ D.cleanL d = true := by
  refine ⟨[(.int .i64 0), (.int .i64 0), (.int .i64 0), (.int .i64 0), .nils, (.int .i64 0), (.int .i64 0), (.int .i64 0), .nils, (.str []), .nils], ?_, rfl, by simp⟩
  refine call_of T_rock_bed e_rock_bed rfl ?_
  cases hc : b.valid
  · simp [-List.length_flatMap, -List.map_take, eF, C_bvalid h1 h2, hc]
  · have hf := fun σ => C_fits (σ := σ) (Bv.of hc) hn hl
    have hb' : fits b m = false := by simpa [Bd, hc] using hb
    simp [-List.length_flatMap, -List.map_take, eF, C_bvalid h1 h2, hc, hf, hb']

/-! ### Rates and plans -/
theorem C_rate1 {n : Int} : lim T (.call false i_rock_Bed_rates_1 [.int .i64 n] σ) = some (.val (.bool (inn n (-100000) 100000)) σ) := by
  refine call_of T_rock_Bed_rates_1 e_rock_Bed_rates_1 rfl ?_
  simp [-List.length_flatMap, -List.map_take, eF, C_rwithin]
theorem C_rallInt {l : List Int} {p : Int → Bool} {fv : D} (hl : l.length ≤ 1000000000) (ht : Tests T fv (fun n => .int .i64 n) p l) (hc : fv.cells = some [fv]) :
    lim T (.call false i_rock_all_int [.lst l.length (l.flatMap intE), fv] σ) = some (.val (.bool (allB l p)) σ) :=
  all_of (eltInt .i64) (f := i_rock_all_int) (g := i_rock_all_int_1) (h := i_slices_ContainsFunc_int) (i := i_slices_IndexFunc_int) (l := l) (p := p) (fv := fv) rfl rfl rfl rfl (by omega) ht hc
theorem C_rates {b : Bed} {l : List Int} (hl : l.length ≤ 1000000000) : lim T (.call false i_rock_Bed_rates [.agg [.int .i64 b.f.x, .int .i64 b.f.y, .int .i64 b.f.z, .int .i64 b.f.k, .lst b.tab.length (b.tab.flatMap Rw.enc), .int .i64 b.stiff, .int .i64 b.lift, .int .i64 b.deep, .lst b.wells.length (b.wells.flatMap Bore.enc)], .lst l.length (l.flatMap intE)] σ) = some (.val (.int .i64 (ratesE b l)) σ) := by
  refine call_of T_rock_Bed_rates e_rock_Bed_rates rfl ?_
  have ha := fun σ => C_rallInt (σ := σ) (l := l) (p := fun n => inn n (-100000) 100000) (fv := .fn i_rock_Bed_rates_1 [] []) hl (Tests.fn fun x _ σ => C_rate1) rfl
  unfold ratesE
  by_cases hc1 : l.length = b.wells.length
  · rw [← hc1]
    cases hc2 : allB l (fun n => inn n (-100000) 100000) <;> simp [-List.length_flatMap, -List.map_take, eF, hc1, ha, hc2, hc1 ▸ ha]
  · simp [-List.length_flatMap, -List.map_take, eF, hc1, show ¬ (l.length : Int) = b.wells.length by omega]
def inL (l : List Int) : List D := [.lst l.length (l.flatMap intE)]
theorem L_plan {b : Bed} {plan : List (List Int)} (hl : plan.length ≤ 1000000000) (hs : ∀ l ∈ plan, l.length ≤ 1000000000) : ∀ (m i : Nat), i + m = plan.length →
    WL T [2, 11, 12, 13] false f_rock_Bed_plan_l10 [(2, .cref [.int .i64 b.f.x, .int .i64 b.f.y, .int .i64 b.f.z, .int .i64 b.f.k, .lst b.tab.length (b.tab.flatMap Rw.enc), .int .i64 b.stiff, .int .i64 b.lift, .int .i64 b.deep, .lst b.wells.length (b.wells.flatMap Bore.enc)]), (11, .lst plan.length (plan.flatMap inL)), (12, .int .i64 plan.length), (13, .int .i64 i)] σ
      (fun x e σ' => σ' = σ ∧ if firstE (ratesE b) (plan.drop i) = 0 then x = .exit 0 else x = .ret ∧ get e 4 = .int .i64 (firstE (ratesE b) (plan.drop i)))
  | 0, i, hi => by
    refine WL_step e_rock_Bed_plan_l10 ?_
    have h1 : ¬ i < plan.length := by omega
    have h2 : plan.drop i = [] := List.drop_eq_nil_of_le (by omega)
    simp [-List.length_flatMap, -List.map_take, eF, h1, h2, firstE]
  | m + 1, i, hi => by
    refine WL_step e_rock_Bed_plan_l10 ?_
    have h1 : i < plan.length := by omega
    obtain ⟨l, hx⟩ : ∃ l, plan[i]? = some l := ⟨_, List.getElem?_eq_getElem h1⟩
    have h2 := flat_at (f := inL) (w := 1) (fun _ => rfl) hx
    simp only [inL, Nat.mul_one] at h2
    have h4 := wnext h1 (by omega)
    have h5 := drop_at hx
    have hC := fun σ => C_rates (σ := σ) (b := b) (l := l) (hs l (List.mem_of_getElem? hx))
    rw [h5, firstE]
    have ih := L_plan (b := b) hl hs m (i + 1) (by omega)
    by_cases hc : ratesE b l = 0
    · simp [-List.length_flatMap, -List.map_take, eF, h1, h2, h4, hC, hc, inL]
      exact WL.to ih (by simp [inL]) rfl fun x e σ' hh => by simpa [hc] using hh
    · simp [-List.length_flatMap, -List.map_take, eF, h1, h2, h4, hC, hc, inL]
theorem C_plan {b : Bed} {plan : List (List Int)} (hl : plan.length ≤ 1000000000) (hs : ∀ l ∈ plan, l.length ≤ 1000000000) :
    lim T (.call false i_rock_Bed_plan [.agg [.int .i64 b.f.x, .int .i64 b.f.y, .int .i64 b.f.z, .int .i64 b.f.k, .lst b.tab.length (b.tab.flatMap Rw.enc), .int .i64 b.stiff, .int .i64 b.lift, .int .i64 b.deep, .lst b.wells.length (b.wells.flatMap Bore.enc)], .lst plan.length (plan.flatMap inL)] σ) = some (.val (.int .i64 (planE b plan)) σ) := by
  refine call_of T_rock_Bed_plan e_rock_Bed_plan rfl ?_
  unfold planE
  by_cases hc : 200 < plan.length
  · simp [-List.length_flatMap, -List.map_take, eF, hc, show (200 : Int) < plan.length by omega]
  · simp [-List.length_flatMap, -List.map_take, eF, hc, show ¬ (200 : Int) < plan.length by omega]
    refine WL.to (L_plan (σ := [] :: σ) (b := b) hl hs plan.length 0 (by omega)) (by simp) rfl ?_
    rintro x e σ' ⟨rfl, h⟩
    simp only [List.drop_zero] at h
    by_cases hc2 : firstE (ratesE b) plan = 0
    · rw [if_pos hc2] at h
      subst h
      simp [-List.length_flatMap, -List.map_take, eF, hc2, show plan.length ≤ 200 by omega]
    · rw [if_neg hc2] at h
      obtain ⟨rfl, h⟩ := h
      simp [h, show ¬ 200 < plan.length by omega]
end Go.Proofs.YtehandllpmlcoaaGreat
