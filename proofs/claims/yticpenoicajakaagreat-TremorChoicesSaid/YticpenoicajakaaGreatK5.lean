/-
  What the law's own functions and the reference answer: picks, errors, conversions, the lattice.
-/
import Derived.Test.YticpenoicajakaaGreatK4
set_option linter.unusedVariables false
set_option linter.unusedSimpArgs false
namespace Go.Proofs.YticpenoicajakaaGreat
open Go Go.Abs Go.Trem
variable {σ : Stack}

theorem C_Point {x y z : Int} : lim T (.call false i_law09_Point [.agg [.int .i64 x, .int .i64 y, .int .i64 z]] σ) = some (.val (.agg [.int .i64 x, .int .i64 y, .int .i64 z]) σ) := by
  refine call_of T_law09_Point e_law09_Point rfl ?_
  simp [-List.length_flatMap, -List.map_take, e_law09_Point_r0, e_law09_Point_r1]
theorem C_Range {a b : Int} : lim T (.call false i_law09_Range [.agg [.int .i64 a, .int .i64 b]] σ) = some (.val (.agg [.int .i64 a, .int .i64 b]) σ) := by
  refine call_of T_law09_Range e_law09_Range rfl ?_
  simp [-List.length_flatMap, -List.map_take, e_law09_Range_r0, e_law09_Range_r1]

end Go.Proofs.YticpenoicajakaaGreat
