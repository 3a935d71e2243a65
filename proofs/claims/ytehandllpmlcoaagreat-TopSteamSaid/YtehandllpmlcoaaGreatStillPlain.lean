/-
  A bed of one block that stays as it is: plain Lean.
-/
import Derived.Test.YtehandllpmlcoaaGreatRockSpec
set_option linter.unusedVariables false
set_option linter.unusedSimpArgs false
namespace Go.Rock
open Go Go.Abs

def three : List Rw := [⟨100, 101, 419, 2676, 150⟩, ⟨150, 476, 632, 2746, 300⟩, ⟨200, 1555, 852, 2793, 600⟩]
def stillB : Bed := ⟨⟨1, 1, 1, 4⟩, three, 1, 0, 0, []⟩
def stillM : Mdl := ⟨[109], [1000, 0, 2, 0]⟩
theorem still_bd : Bd stillB stillM = true := by decide
theorem still_plan : planE stillB [[]] = 0 := by decide
theorem still_run : run stillB stillM [[]] = some ([[⟨1000, 2000, 0⟩], [⟨1000, 2000, 0⟩]], [[]]) := by rfl
end Go.Rock
