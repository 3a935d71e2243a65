/-
  TopSteam: the law.
-/
import Derived.Test.YtehandllpmlcoaaGreatQ18
set_option linter.unusedVariables false
set_option linter.unusedSimpArgs false
namespace Go.Proofs.YtehandllpmlcoaaGreat
open Go Go.Abs Go.Rock
variable {σ : Stack}

theorem L_st {b : Bed} {l : List Mdl} {plan : List (List Int)} {rs : List RunT} {r : RunT} {row : Rw} {lev i : Nat} (h : Ok b l plan) (hR : Rs b l plan.length rs) (hr : r ∈ rs) (hlev : b.tab[lev]? = some row) : ∀ (k t : Nat), t + k = plan.length →
    WL T [2, 4, 9, 10, 11, 12, 14, 15, 17] false f_top_TopSteam_l27 [(2, .lst plan.length (plan.flatMap inL)), (4, .cref [.int .i64 b.f.x, .int .i64 b.f.y, .int .i64 b.f.z, .int .i64 b.f.k, .lst b.tab.length (b.tab.flatMap Rw.enc), .int .i64 b.stiff, .int .i64 b.lift, .int .i64 b.deep, .lst b.wells.length (b.wells.flatMap Bore.enc)]), (9, .own 0 [.int .i64 b.f.x, .int .i64 b.f.y, .int .i64 b.f.z, .int .i64 b.f.k, .lst b.tab.length (b.tab.flatMap Rw.enc), .int .i64 b.stiff, .int .i64 b.lift, .int .i64 b.deep, .lst b.wells.length (b.wells.flatMap Bore.enc)]), (10, .lst l.length (l.flatMap Mdl.enc)), (11, .int .i64 lev), (12, .lst plan.length ((List.range plan.length).flatMap (foreE b l rs))), (14, .int .i64 i), (15, .own 0 [.lst r.1.length (r.1.flatMap stL), .lst r.2.length (r.2.flatMap stL)]), (17, .int .i64 t)] σ
      (fun x e σ' => x = .exit 2 ∧ e = [(2, .lst plan.length (plan.flatMap inL)), (4, .cref [.int .i64 b.f.x, .int .i64 b.f.y, .int .i64 b.f.z, .int .i64 b.f.k, .lst b.tab.length (b.tab.flatMap Rw.enc), .int .i64 b.stiff, .int .i64 b.lift, .int .i64 b.deep, .lst b.wells.length (b.wells.flatMap Bore.enc)]), (9, .own 0 [.int .i64 b.f.x, .int .i64 b.f.y, .int .i64 b.f.z, .int .i64 b.f.k, .lst b.tab.length (b.tab.flatMap Rw.enc), .int .i64 b.stiff, .int .i64 b.lift, .int .i64 b.deep, .lst b.wells.length (b.wells.flatMap Bore.enc)]), (10, .lst l.length (l.flatMap Mdl.enc)), (11, .int .i64 lev), (12, .lst plan.length ((List.range plan.length).flatMap (foreE b l rs))), (14, .int .i64 i), (15, .own 0 [.lst r.1.length (r.1.flatMap stL), .lst r.2.length (r.2.flatMap stL)]), (17, .int .i64 plan.length), (94, .bool false)] ∧ σ' = σ)
  | 0, t, hi => by
    refine WL_step e_top_TopSteam_l27 ?_
    obtain rfl : t = plan.length := by omega
    simp [-List.length_flatMap, -List.map_take, eF]
  | k + 1, t, hi => by
    refine WL_step e_top_TopSteam_l27 ?_
    have h1 : t < plan.length := by omega
    have hp6 := h.plen
    have h4 := wnext h1 (by omega)
    have ih := L_st (i := i) h hR hr hlev k (t + 1) (by omega)
    have hRr := hR.all r hr
    obtain ⟨y1, y2⟩ := row_y hRr h1
    have a1 := foreE_at (b := b) (l := l) (rs := rs) h1
    have a3 := stL_at y1
    have hyl := hRr.yl
    have hyw := y2.len
    have ht' : t < r.2.length := by omega
    generalize rowAt r.2 t = yr at *
    simp [-List.length_flatMap, -List.map_take, eF, h1, ht', a1, a3, hyw]
    refine WL.to (L_sw (i := i) h hR hr hlev h1 b.wells.length 0 (by omega)) (by simp) rfl ?_
    rintro x e σ' ⟨rfl, rfl, rfl⟩
    simp [-List.length_flatMap, -List.map_take, eF, h4]
    exact WL.to ih (by simp) rfl fun x e σ hh => hh
theorem L_sm {b : Bed} {l : List Mdl} {plan : List (List Int)} {rs : List RunT} {row : Rw} {lev : Nat} (h : Ok b l plan) (hrs : runsL b plan l = some rs) (hR : Rs b l plan.length rs) (hlev : b.tab[lev]? = some row) (hσ : σ ≠ []) : ∀ (k i : Nat), i + k = l.length →
    WL T [2, 4, 9, 10, 11, 12, 14] false f_top_TopSteam_l29 [(2, .lst plan.length (plan.flatMap inL)), (4, .cref [.int .i64 b.f.x, .int .i64 b.f.y, .int .i64 b.f.z, .int .i64 b.f.k, .lst b.tab.length (b.tab.flatMap Rw.enc), .int .i64 b.stiff, .int .i64 b.lift, .int .i64 b.deep, .lst b.wells.length (b.wells.flatMap Bore.enc)]), (9, .own 0 [.int .i64 b.f.x, .int .i64 b.f.y, .int .i64 b.f.z, .int .i64 b.f.k, .lst b.tab.length (b.tab.flatMap Rw.enc), .int .i64 b.stiff, .int .i64 b.lift, .int .i64 b.deep, .lst b.wells.length (b.wells.flatMap Bore.enc)]), (10, .lst l.length (l.flatMap Mdl.enc)), (11, .int .i64 lev), (12, .lst plan.length ((List.range plan.length).flatMap (foreE b l rs))), (14, .int .i64 i)] σ
      (fun x e σ' => x = .exit 0 ∧ σ' = σ)
  | 0, i, hi => by
    refine WL_step e_top_TopSteam_l29 ?_
    obtain rfl : i = l.length := by omega
    simp [-List.length_flatMap, -List.map_take, eF]
  | k + 1, i, hi => by
    refine WL_step e_top_TopSteam_l29 ?_
    have h1 : i < l.length := by omega
    have hl := h.len
    have hp6 := h.plen
    have h4 := wnext h1 (by omega)
    have ih := L_sm h hrs hR hlev hσ k (i + 1) (by omega)
    obtain ⟨m, hm⟩ : ∃ m, l[i]? = some m := ⟨_, List.getElem?_eq_getElem h1⟩
    obtain ⟨r, hr1, hr2⟩ := (runsL_len hrs).2 i m hm
    have hr := List.mem_of_getElem? hr1
    have hmm := List.mem_of_getElem? hm
    have a1 := mdlE_at hm
    have kP := fun σ hσ => C_PlanL (σ := σ) h.bv.wells (t := plan) (by omega) h.rates hσ
    have kR := fun σ hσ => C_PlayOk (σ := σ) h hmm hr2 hσ
    have hyl := (hR.all r hr).yl
    simp [-List.length_flatMap, -List.map_take, eF, h1, a1, kP, kR, hσ, hyl]
    rw [← hyl]
    refine WL.to (L_st (i := i) h hR hr hlev plan.length 0 (by omega)) (by simp [hyl]) rfl ?_
    rintro x e σ' ⟨rfl, rfl, rfl⟩
    simp [-List.length_flatMap, -List.map_take, eF, h4]
    exact WL.to ih (by simp) rfl fun x e σ hh => hh
theorem law_Steam {b : Bed} {l : List Mdl} {plan : List (List Int)} {k : Nat} (hk : k ≤ 255) (h1 : b.tab.length ≤ 9223372036854775807) (h2 : b.wells.length ≤ 9223372036854775807) (hs : ∀ m ∈ l, m.name.length ≤ 9223372036854775807 ∧ m.vals.length ≤ 9223372036854775807) (hl : l.length ≤ 9223372036854775807) (hp : plan.length ≤ 9223372036854775807) (hr : ∀ l ∈ plan, l.length ≤ 9223372036854775807) :
    lim T (.call false i_top_TopSteam [.agg [.int .i64 b.f.x, .int .i64 b.f.y, .int .i64 b.f.z, .int .i64 b.f.k, .lst b.tab.length (b.tab.flatMap Rw.enc), .int .i64 b.stiff, .int .i64 b.lift, .int .i64 b.deep, .lst b.wells.length (b.wells.flatMap Bore.enc)], .lst l.length (l.flatMap Mdl.enc), .lst plan.length (plan.flatMap inL), .int .u8 k] [[]]) = some (.val (.bool true) [[]]) := by
  refine call_of T_top_TopSteam e_top_TopSteam rfl ?_
  have hS := fun σ hσ => C_still (σ := σ) hσ
  have hC := fun σ => C_run (σ := σ) h1 h2 hs hl hp hr
  cases hc : runOk b l plan
  · rw [hc] at hC
    simp [-List.length_flatMap, -List.map_take, eF, hC, hS, cl_rw, cl_bore]
  rw [hc] at hC
  have h := Ok.of hc
  have htab := h.bv.tab
  have ht : 2 ≤ b.tab.length ∧ b.tab.length ≤ 20 := by
    simp only [tabOk, Bool.and_eq_true] at htab
    have := inn_iff.1 htab.1; omega
  have hll := h.len
  have hp6 := h.plen
  have kB := fun σ hσ => C_LBed (σ := σ) (b := b) ht.2 h.bv.wells hσ
  have kM := fun σ hσ => C_LModels (σ := σ) (l := l) (by omega) (fun m hm => by have := (h.short m hm).2; omega) hσ
  have kP := fun σ hσ => C_PlanL (σ := σ) h.bv.wells (t := plan) (by omega) h.rates hσ
  have hlt : k % b.tab.length < b.tab.length := Nat.mod_lt _ (by omega)
  obtain ⟨row, hlev⟩ : ∃ r, b.tab[k % b.tab.length]? = some r := ⟨_, List.getElem?_eq_getElem hlt⟩
  have e1 : (k : Int).tmod (b.tab.length : Int) = ((k % b.tab.length : Nat) : Int) := rfl
  have e2 : (k : Int) % (b.tab.length : Int) = ((k % b.tab.length : Nat) : Int) := rfl
  have w1 := w64 (n := ((k % b.tab.length : Nat) : Int)) (by omega)
  have w2 := w64 (n := (k : Int)) (by omega)
  have hne : b.tab ≠ [] := fun hh => by rw [hh] at ht; simp at ht
  have hne' : ¬ (b.tab.length : Int) = 0 := by omega
  generalize k % b.tab.length = lev at *
  cases hrs : runsL b plan l with
  | none =>
    have kA := fun σ hσ => C_AheadNo (σ := σ) h hσ hrs
    simp [-List.length_flatMap, -List.map_take, eF, hC, hS, kB, kM, kP, kA, e1, e2, w1, w2, hne, hne', cl_rw, cl_bore]
  | some rs =>
    have kA := fun σ hσ => C_Ahead (σ := σ) h hσ hrs
    have hR := Rs.of h hrs
    simp [-List.length_flatMap, -List.map_take, eF, hC, hS, kB, kM, kP, kA, e1, e2, w1, w2, hne, hne', cl_rw, cl_bore]
    refine WL.to (L_sm (σ := [[], []]) h hrs hR hlev (by simp) l.length 0 (by omega)) (by simp) rfl ?_
    rintro x e σ' ⟨rfl, rfl⟩
    simp [-List.length_flatMap, -List.map_take, eF, hS]
end Go.Proofs.YtehandllpmlcoaaGreat
