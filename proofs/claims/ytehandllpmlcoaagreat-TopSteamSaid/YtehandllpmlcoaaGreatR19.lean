/-
  Play, Pressures.
-/
import Derived.Test.YtehandllpmlcoaaGreatR18
set_option linter.unusedVariables false
set_option linter.unusedSimpArgs false
namespace Go.Proofs.YtehandllpmlcoaaGreat
open Go Go.Abs Go.Rock
variable {σ : Stack}

theorem X_caughtNo {l i v off : Nat} : lim T (.dcall i_rock_caught [.ref l i v off] none σ) = some (.val (.tup []) σ) := by
  refine dcall_of T_rock_caught e_rock_caught rfl (by simp [-List.length_flatMap, -List.map_take, eF, afterRcv]; exact ⟨rfl, rfl⟩) ?_
  simp [-List.length_flatMap, -List.map_take, eF]
theorem X_caught {F : List Abs.Blk} (hF : F = [.cells 0 [.int .i64 0]]) : lim T (.dcall i_rock_caught [.ref σ.length 0 0 0] (some (.ifc 205 (.agg []))) (F :: σ)) = some (.val (.tup []) ([.cells 0 [.int .i64 9]] :: σ)) := by
  subst hF
  refine dcall_of T_rock_caught e_rock_caught rfl (by simp [-List.length_flatMap, -List.map_take, eF, afterRcv]; exact ⟨rfl, rfl⟩) ?_
  simp [-List.length_flatMap, -List.map_take, eF]
theorem firstE_zero {α : Type} {f : α → Int} : ∀ {l : List α}, firstE f l = 0 → ∀ x ∈ l, f x = 0
  | [], _, x, hx => by cases hx
  | a :: l, h, x, hx => by
    simp only [firstE] at h
    split at h
    · rename_i ha
      rcases List.mem_cons.1 hx with rfl | hx
      · exact ha
      · exact firstE_zero h x hx
    · rename_i ha; exact absurd h ha
theorem planE_zero {b : Bed} {plan : List (List Int)} (h : planE b plan = 0) : plan.length ≤ 200 ∧ ∀ r ∈ plan, Rv b r := by
  unfold planE at h
  split at h
  · cases h
  · exact ⟨by omega, fun r hr => Rv.of (firstE_zero h r hr)⟩
theorem planE_pos {b : Bed} {plan : List (List Int)} : 0 ≤ planE b plan ∧ planE b plan ≤ 3 := by
  have key : ∀ l : List (List Int), 0 ≤ firstE (ratesE b) l ∧ firstE (ratesE b) l ≤ 3 := by
    intro l
    induction l with
    | nil => simp [firstE]
    | cons a l ih =>
      simp only [firstE]
      split
      · exact ih
      · unfold ratesE; repeat' split
        all_goals omega
  unfold planE
  split
  · omega
  · exact key plan
/-- What Play answers. -/
def playE (b : Bed) (m : Mdl) (plan : List (List Int)) : Int := if Bd b m then (if planE b plan = 0 then (match Rock.run b m plan with | some _ => 0 | none => 9) else planE b plan) else 1
def playD (b : Bed) (m : Mdl) (plan : List (List Int)) : D := if playE b m plan = 0 then (match Rock.run b m plan with | some (ss, ys) => .agg [.lst ss.length (ss.flatMap stL), .lst ys.length (ys.flatMap stL)] | none => .agg [.nils, .nils]) else .agg [.nils, .nils]
theorem C_Play {b : Bed} {m : Mdl} {plan : List (List Int)} {wq : D} (hwq : wq.blur = .lst b.wells.length (b.wells.flatMap Bore.enc)) (h1 : b.tab.length ≤ 1000000000) (h2 : b.wells.length ≤ 1000000000) (hn : m.name.length ≤ 1000000000) (hl : m.vals.length ≤ 1000000000) (hp : plan.length ≤ 1000000000) (hs : ∀ l ∈ plan, l.length ≤ 1000000000) (hσ : σ ≠ []) :
    lim T (.call false i_rock_Play [.agg [.int .i64 b.f.x, .int .i64 b.f.y, .int .i64 b.f.z, .int .i64 b.f.k, .lst b.tab.length (b.tab.flatMap Rw.enc), .int .i64 b.stiff, .int .i64 b.lift, .int .i64 b.deep, wq], .agg [.str m.name, .lst m.vals.length (m.vals.flatMap intE)], .lst plan.length (plan.flatMap inL)] σ) = some (.val (.tup [playD b m plan, .int .i64 (playE b m plan)]) σ) := by
  have hP := fun σ => C_plan (σ := σ) (b := b) hp hs
  cases hb : Bd b m
  · have hE : playE b m plan = 1 := by simp [playE, hb]
    have hD : playD b m plan = .agg [.nils, .nils] := by simp [playD, hE]
    rw [hD, hE]
    refine call_of T_rock_Play e_rock_Play rfl ?_
    obtain ⟨d, hB, hd1, hd2⟩ := C_bedNo h1 h2 hn hl hb (σ := [.cells 0 [.int .i64 0]] :: σ)
    simp [-List.length_flatMap, -List.map_take, eF, hwq, hB, hd1, cl_rw, cl_bore, cl_int]
  · have hB := fun σ => C_bed (σ := σ) h1 h2 hn hl hb
    by_cases hq : planE b plan = 0
    · obtain ⟨p1, p2⟩ := planE_zero hq
      simp only [Bd, Bool.and_eq_true] at hb
      have hf : Fv b m := Fv.of (by simp [Bd, hb])
      have hb' : Bd b m = true := by simp [Bd, hb]
      refine call_dfr T_rock_Play e_rock_Play rfl rfl ?_
      cases hrun : Rock.run b m plan with
      | none =>
        have hE : playE b m plan = 9 := by simp [playE, hb', hq, hrun]
        have hD : playD b m plan = .agg [.nils, .nils] := by simp [playD, hE]
        have hR := fun σ => C_runNo (σ := σ) hf p1 p2 hrun
        have hX : dcallV T (.fn i_rock_caught [] []) [.ref σ.length 0 0 0] (some (.ifc 205 (.agg []))) ([.cells 0 [.int .i64 0]] :: σ) = some ([.cells 0 [.int .i64 9]] :: σ) := dcallV_fn (X_caught rfl)
        rw [hD, hE]
        simp [-List.length_flatMap, -List.map_take, eF, toD, endD, hwq, hB, hP, hq, hR, cl_rw, cl_bore, cl_int]
        rw [WC_eq e_rock_Play_b8]
        simp [-List.length_flatMap, -List.map_take, eF, toD, endD, hX, hR, cl_rw, cl_bore, cl_int]
      | some p =>
        obtain ⟨ss, ys⟩ := p
        have hE : playE b m plan = 0 := by simp [playE, hb', hq, hrun]
        have hD : playD b m plan = .agg [.lst ss.length (ss.flatMap stL), .lst ys.length (ys.flatMap stL)] := by simp [playD, hE, hrun]
        have hX : dcallV T (.fn i_rock_caught [] []) [.ref σ.length 0 0 0] none ([.cells 0 [.int .i64 0]] :: σ) = some ([.cells 0 [.int .i64 0]] :: σ) := dcallV_fn X_caughtNo
        have hR := fun σ hσ => C_runOk (σ := σ) hf p1 p2 hσ hrun
        rw [hD, hE]
        simp [-List.length_flatMap, -List.map_take, eF, toD, endD, hwq, hB, hP, hq, hR, cl_rw, cl_bore, cl_int]
        rw [WC_eq e_rock_Play_b8]
        simp [-List.length_flatMap, -List.map_take, eF, toD, endD, hX, hR, cl_rw, cl_bore, cl_int]
        rw [frz_clean (by simp [D.clean, cl_st]) (by omega)]
        exact ⟨_, rfl⟩
    · have hE : playE b m plan = planE b plan := by simp [playE, hb, hq]
      have hD : playD b m plan = .agg [.nils, .nils] := by simp [playD, hE, hq]
      rw [hD, hE]
      refine call_of T_rock_Play e_rock_Play rfl ?_
      simp [-List.length_flatMap, -List.map_take, eF, hwq, hB, hP, hq, cl_rw, cl_bore, cl_int]
end Go.Proofs.YtehandllpmlcoaaGreat
