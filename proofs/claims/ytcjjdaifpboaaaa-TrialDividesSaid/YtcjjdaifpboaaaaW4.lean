/-
  A ground fact: what is asked for twice.
-/
import Derived.Test.YtcjjdaifpboaaaaW
set_option linter.unusedVariables false
set_option linter.unusedSimpArgs false
set_option maxRecDepth 100000
namespace Go.Proofs.Ytcjjdaifpboaaaa
open Go Go.Abs

theorem it_wakesDD : it T 150 (.call false i_law04_wakes [] [[.dead, .dead], []]) = some (.val (.bool true) [[.dead, .dead], []]) := by kernel_rfl
theorem C_wakesDD : lim T (.call false i_law04_wakes [] [[.dead, .dead], []]) = some (.val (.bool true) [[.dead, .dead], []]) := lim_iff.2 ⟨150, it_wakesDD⟩
end Go.Proofs.Ytcjjdaifpboaaaa
