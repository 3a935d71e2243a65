/-
  TopSlope: the walk.
-/
import Derived.Test.YtehandllpmlcoaaU1
import Derived.Test.YtehandllpmlcoaaN
import Derived.Test.YtehandllpmlcoaaSlopePlain
set_option linter.unusedVariables false
set_option linter.unusedSimpArgs false
namespace Go.Proofs.Ytehandllpmlcoaa
open Go Go.Abs
variable {σ : Stack}

theorem C_Three : lim T (.call false i_law01_Three [] σ) = some (.val (.lst 3 (Rock.three.flatMap Rock.Rw.enc)) σ) := by
  refine call_of T_law01_Three e_law01_Three rfl ?_
  simp [-List.length_flatMap, -List.map_take, eF, Rock.three]
theorem C_still (hσ : σ ≠ []) : lim T (.call false i_top_still [] σ) = some (.val (.bool true) σ) := by
  refine call_of T_top_still e_top_still rfl ?_
  have hP := fun σ hσ => Nil.C_Play (σ := σ) (b := Rock.stillB) (m := Rock.stillM) (plan := [[]]) rfl (by decide) (by decide) (by decide) (by decide) (by decide) (by decide) hσ
  have hE : playE Rock.stillB Rock.stillM [[]] = 0 := by simp [playE, Rock.still_bd, Rock.still_plan, Rock.still_run]
  have hD : playD Rock.stillB Rock.stillM [[]] = .agg [.lst 2 [.lst 1 [.int .i64 1000, .int .i64 2000, .int .i64 0], .lst 1 [.int .i64 1000, .int .i64 2000, .int .i64 0]], .lst 1 [.lst 0 []]] := by
    simp [playD, hE, Rock.still_run, stL]
  rw [hD, hE] at hP
  simp [Rock.stillB, Rock.stillM, inL, show Rock.three.length = 3 from rfl] at hP
  simp [-List.length_flatMap, -List.map_take, eF, C_Three, hP]
end Go.Proofs.Ytehandllpmlcoaa
