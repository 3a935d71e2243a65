/-
  The law LeaseDrills answers true.
-/
import Derived.Test.YtcccafphhmcifaaGreatE12
import Derived.Test.YtcccafphhmcifaaGreatW
set_option linter.unusedVariables false
set_option linter.unusedSimpArgs false
namespace Go.Proofs.YtcccafphhmcifaaGreat
open Go Go.Abs Go.Lease
variable {σ : Stack}

theorem lads_few {p : Pg} (hp : pgOk p = true) : ∀ l ∈ lads p p.l, l.length ≤ 100000 := by
  have hp1 := pgOk_iff.1 hp
  intro l hl
  have := (rightL_iff.1 (lads_right hp p.l hp1.2.2.2.2.2 (by omega) l hl)).2.2.1
  omega
theorem law_Drills {p : Pg} : lim T (.call false i_law11_LeaseDrills [.agg [.int .i64 p.start, .int .i64 p.gain, .int .i64 p.keep, .int .i64 p.most, .lst p.l.length (p.l.flatMap Yr.enc)]] [[]]) = some (.val (.bool true) [[]]) := by
  refine call_of T_law11_LeaseDrills e_law11_LeaseDrills rfl ?_
  by_cases hl : p.l.length ≤ 12
  rotate_left
  · have h1 : (12 : Int) < p.l.length := by omega
    simp [-List.length_flatMap, -List.map_take, e_law11_LeaseDrills_r0, e_law11_LeaseDrills_r1, e_law11_LeaseDrills_r2, e_law11_LeaseDrills_r3, e_law11_LeaseDrills_r4, e_law11_LeaseDrills_r5, e_law11_LeaseDrills_r6, e_law11_LeaseDrills_r7, e_law11_LeaseDrills_r8, e_law11_LeaseDrills_r9, h1, C_wakes]
  have h1 : ¬ (12 : Int) < p.l.length := by omega
  have hR := fun σ => C_RPg (σ := σ) (p := p)
  have hP := fun σ (hσ : σ ≠ []) => C_Pg (σ := σ) (p := p) (by omega) hσ
  have hD := fun σ (hσ : σ ≠ []) => C_Drill (σ := σ) (p := p) (by omega) hσ
  unfold drillD at hD
  cases c1 : pgOk p
  · simp only [c1, Bool.false_eq_true, if_false] at hD
    simp [-List.length_flatMap, -List.map_take, e_law11_LeaseDrills_r0, e_law11_LeaseDrills_r1, e_law11_LeaseDrills_r2, e_law11_LeaseDrills_r3, e_law11_LeaseDrills_r4, e_law11_LeaseDrills_r5, e_law11_LeaseDrills_r6, e_law11_LeaseDrills_r7, e_law11_LeaseDrills_r8, e_law11_LeaseDrills_r9, h1, hR, hP, hD, c1, C_wakes]
  by_cases h6 : p.l.length ≤ 6
  rotate_left
  · have h6' : (6 : Int) < p.l.length := by omega
    simp [-List.length_flatMap, -List.map_take, e_law11_LeaseDrills_r0, e_law11_LeaseDrills_r1, e_law11_LeaseDrills_r2, e_law11_LeaseDrills_r3, e_law11_LeaseDrills_r4, e_law11_LeaseDrills_r5, e_law11_LeaseDrills_r6, e_law11_LeaseDrills_r7, e_law11_LeaseDrills_r8, e_law11_LeaseDrills_r9, h1, hR, c1, h6', C_wakes]
  have h6' : ¬ (6 : Int) < p.l.length := by omega
  have hp1 := pgOk_iff.1 c1
  simp only [c1, if_true, never] at hD
  have hL := fun σ => C_LeastR c1 p.l.length 0 p.start σ (by omega) hp1.1.1 (by omega)
  rw [show (((0 : Nat)) : Int) = 0 from rfl, List.drop_zero] at hL
  have hle := leastF_le (p := p) p.l p.start
  simp only [never] at hle
  by_cases h7 : leastF p p.l p.start = 1000000000000
  · simp only [h7, if_true] at hD
    rw [h7] at hL
    simp [-List.length_flatMap, -List.map_take, e_law11_LeaseDrills_r0, e_law11_LeaseDrills_r1, e_law11_LeaseDrills_r2, e_law11_LeaseDrills_r3, e_law11_LeaseDrills_r4, e_law11_LeaseDrills_r5, e_law11_LeaseDrills_r6, e_law11_LeaseDrills_r7, e_law11_LeaseDrills_r8, e_law11_LeaseDrills_r9, h1, h6', hR, hP, hD, hL, c1, C_wakes]
  have hlt : leastF p p.l p.start < never := by simp only [never]; omega
  simp only [h7, if_false] at hD
  have hd := drillL_ok hp1.2.2.2.1.1 p.l p.start hp1.2.2.2.2.2 hlt
  have hlen := lads_len (p := p) p.l
  have hDR := fun σ (hσ : σ ≠ []) => C_DrillR (σ := σ) c1 hlt hσ
  have hI := fun σ => C_ints (σ := σ) (a := drillL p p.l p.start) (b := drillL p p.l p.start) (by omega)
  rw [hd.1] at hI
  have hB := fun σ (hσ : σ ≠ []) => C_back (σ := σ) (t := lads p p.l) (by omega) (lads_few c1) hσ
  rw [hlen] at hB
  have hS := fun σ (hσ : σ ≠ []) => C_Shows (σ := σ) c1 (ks := drillL p p.l p.start) (by omega) (t := lads p p.l) (by omega) (lads_few c1) hσ
  rw [hd.1, hlen, drill_shows c1 hlt] at hS
  simp [-List.length_flatMap, -List.map_take, e_law11_LeaseDrills_r0, e_law11_LeaseDrills_r1, e_law11_LeaseDrills_r2, e_law11_LeaseDrills_r3, e_law11_LeaseDrills_r4, e_law11_LeaseDrills_r5, e_law11_LeaseDrills_r6, e_law11_LeaseDrills_r7, e_law11_LeaseDrills_r8, e_law11_LeaseDrills_r9, h1, h6', hR, hP, hD, hL, h7, hDR, hI, hB, hS, c1, C_wakes]
theorem go_LeaseDrills (x0 : D) (t0 : (Ty.struct [.int .i64, .int .i64, .int .i64, .int .i64, .slice 2 (.struct [.int .i64, .int .i64])]).hasV x0) :
    ∃ σ', lim T (.call false i_law11_LeaseDrills [x0] [[]]) = some (.val (.bool true) σ') := by
  obtain ⟨p, rfl⟩ := pg_of t0
  exact ⟨_, law_Drills⟩
end Go.Proofs.YtcccafphhmcifaaGreat
