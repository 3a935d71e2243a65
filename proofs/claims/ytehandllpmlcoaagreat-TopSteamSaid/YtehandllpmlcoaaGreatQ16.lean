/-
  Ahead; Play of a model that fits; plans.
-/
import Derived.Test.YtehandllpmlcoaaGreatQ15
import Derived.Test.YtehandllpmlcoaaGreatStillPlain
set_option linter.unusedVariables false
set_option linter.unusedSimpArgs false
namespace Go.Proofs.YtehandllpmlcoaaGreat
open Go Go.Abs Go.Rock
variable {σ : Stack}

theorem Rs.of {b : Bed} {l : List Mdl} {plan : List (List Int)} (h : Ok b l plan) {rs : List RunT} (hr : runsL b plan l = some rs) : Rs b l plan.length rs := by
  obtain ⟨h1, h2⟩ := runsL_len hr
  refine ⟨h1, h.len, h.plen, h.bv.wells, h.bv.n, ?_, h.fv⟩
  intro r hmem
  obtain ⟨i, hi⟩ := List.getElem?_of_mem hmem
  have hlt : i < l.length := by rw [← h1]; exact (List.getElem?_eq_some_iff.1 hi).1
  obtain ⟨m, hm⟩ : ∃ m, l[i]? = some m := ⟨_, List.getElem?_eq_getElem hlt⟩
  obtain ⟨r', h3, h4⟩ := h2 i m hm
  rw [hi] at h3
  cases h3
  exact Run.of (h.fv m (List.mem_of_getElem? hm)) h.rates h4
theorem X_caught1 {A : Abs.Blk} : lim T (.dcall i_rock_caught [.ref σ.length 1 0 0] (some (.ifc 205 (.agg []))) ([A, .cells 0 [.int .i64 0]] :: σ)) = some (.val (.tup []) ([A, .cells 0 [.int .i64 9]] :: σ)) := by
  refine dcall_of T_rock_caught e_rock_caught rfl (by simp [-List.length_flatMap, -List.map_take, eF, afterRcv]; exact ⟨rfl, rfl⟩) ?_
  simp [-List.length_flatMap, -List.map_take, eF]
theorem frz_pair {l u n w : Nat} {k : Int} {S S' : Stack} {cs : List D} {i : Nat} (h : frz l 15 (.sl u i n 0 n w) S = (.lst n cs, S')) : frz l 16 (.tup [.sl u i n 0 n w, .int .i64 k]) S = (.tup [.lst n cs, .int .i64 k], S') := by
  rw [frz_tup (by rfl) (by omega)]
  simp only [frzL_cons, frzL_nil]
  rw [h, frz_clean (by rfl) (by omega)]
theorem C_Ahead {b : Bed} {l : List Mdl} {plan : List (List Int)} (h : Ok b l plan) (hσ : σ ≠ []) {rs : List RunT} (hr : runsL b plan l = some rs) :
    lim T (.call false i_rock_Ahead [.agg [.int .i64 b.f.x, .int .i64 b.f.y, .int .i64 b.f.z, .int .i64 b.f.k, .lst b.tab.length (b.tab.flatMap Rw.enc), .int .i64 b.stiff, .int .i64 b.lift, .int .i64 b.deep, .lst b.wells.length (b.wells.flatMap Bore.enc)], .lst l.length (l.flatMap Mdl.enc), .lst plan.length (plan.flatMap inL)] σ) = some (.val (.tup [.lst plan.length ((List.range plan.length).flatMap (foreE b l rs)), .int .i64 0]) σ) := by
  refine call_dfr T_rock_Ahead e_rock_Ahead rfl rfl ?_
  have hR := Rs.of h hr
  have h1 := fun σ => C_ready (σ := σ) h
  have h2 := fun σ hσ => C_runsOk (σ := σ) h hσ hr hR.len
  have hX : dcallV T (.fn i_rock_caught [] []) [.ref σ.length 1 0 0] none ([.cells plan.length ((List.range plan.length).flatMap (foreE b l rs)), .cells 0 [.int .i64 0]] :: σ) = some ([.cells plan.length ((List.range plan.length).flatMap (foreE b l rs)), .cells 0 [.int .i64 0]] :: σ) := dcallV_fn X_caughtNo
  simp [-List.length_flatMap, -List.map_take, eF, toD, endD, h1, cl_rw, cl_bore, cl_int]
  rw [WC_eq e_rock_Ahead_b40]
  simp [-List.length_flatMap, -List.map_take, eF, toD, endD, h2, cl_rw, cl_bore, cl_int]
  refine WL.to (L_tk (σ := σ) h.bv hR (B := .cells 0 [.int .i64 0]) plan.length 0 (by omega)) (by simp) (by simp) ?_
  rintro x e σ' ⟨rfl, rfl, rfl⟩
  simp [-List.length_flatMap, -List.map_take, eF, toD, endD, hX]
  have hk := k_out (n := 15) (f := foreE b l rs) (w := 2) (l := List.range plan.length) (j := 0) (v := plan.length) (bs := [.cells plan.length ((List.range plan.length).flatMap (foreE b l rs)), .cells 0 [.int .i64 0]]) (by decide) (fun _ => rfl) (fun x => by simp [foreE, D.clean, cl_bnd, cl_pr]) hσ rfl
  rw [List.length_range] at hk
  rw [frz_pair hk]
  exact ⟨_, rfl⟩
theorem C_AheadNo {b : Bed} {l : List Mdl} {plan : List (List Int)} (h : Ok b l plan) (hσ : σ ≠ []) (hr : runsL b plan l = none) :
    lim T (.call false i_rock_Ahead [.agg [.int .i64 b.f.x, .int .i64 b.f.y, .int .i64 b.f.z, .int .i64 b.f.k, .lst b.tab.length (b.tab.flatMap Rw.enc), .int .i64 b.stiff, .int .i64 b.lift, .int .i64 b.deep, .lst b.wells.length (b.wells.flatMap Bore.enc)], .lst l.length (l.flatMap Mdl.enc), .lst plan.length (plan.flatMap inL)] σ) = some (.val (.tup [.lst 0 [], .int .i64 9]) σ) := by
  refine call_dfr T_rock_Ahead e_rock_Ahead rfl rfl ?_
  have h1 := fun σ => C_ready (σ := σ) h
  have h2 := fun σ => C_runsNo (σ := σ) h hr
  have hX : dcallV T (.fn i_rock_caught [] []) [.ref σ.length 1 0 0] (some (.ifc 205 (.agg []))) ([.cells 0 [], .cells 0 [.int .i64 0]] :: σ) = some ([.cells 0 [], .cells 0 [.int .i64 9]] :: σ) := dcallV_fn X_caught1
  simp [-List.length_flatMap, -List.map_take, eF, toD, endD, h1, cl_rw, cl_bore, cl_int]
  rw [WC_eq e_rock_Ahead_b40]
  simp [-List.length_flatMap, -List.map_take, eF, toD, endD, h2, hX, cl_rw, cl_bore, cl_int]
  have hk := k_out (n := 15) (f := foreE b l []) (w := 2) (l := []) (j := 0) (v := 0) (bs := [.cells 0 [], .cells 0 [.int .i64 9]]) (by decide) (fun _ => rfl) (fun x => by simp [foreE, D.clean, cl_bnd, cl_pr]) hσ rfl
  rw [frz_pair hk]
  exact ⟨_, rfl⟩
end Go.Proofs.YtehandllpmlcoaaGreat
