/-
  The document's first examples, behind three blocks that are dead.
-/
import Derived.Test.YtcjjdaifpboaaaaW3
set_option linter.unusedVariables false
set_option linter.unusedSimpArgs false
set_option maxRecDepth 100000
namespace Go.Proofs.Ytcjjdaifpboaaaa
open Go Go.Abs

theorem it_wakesD3 : it T 150 (.call false i_law04_wakes [] [[.dead, .dead, .dead], []]) = some (.val (.bool true) [[.dead, .dead, .dead], []]) := by kernel_rfl
theorem C_wakesD3 : lim T (.call false i_law04_wakes [] [[.dead, .dead, .dead], []]) = some (.val (.bool true) [[.dead, .dead, .dead], []]) := lim_iff.2 ⟨150, it_wakesD3⟩
end Go.Proofs.Ytcjjdaifpboaaaa
