/-
  The document's first examples of layer 11, behind an empty block and one that is written out.
-/
import Derived.Test.YtcccafphhmcifaaTab
import Derived.Test.YtcccafphhmcifaaBase2
set_option linter.unusedVariables false
set_option linter.unusedSimpArgs false
set_option maxRecDepth 100000
namespace Go.Proofs.Ytcccafphhmcifaa
open Go Go.Abs

theorem it_wakesC : it T 200 (.call false i_law11_wakes [] [[.cells 0 [], .dead], []]) = some (.val (.bool true) [[.cells 0 [], .dead], []]) := by kernel_rfl
theorem C_wakesC : lim T (.call false i_law11_wakes [] [[.cells 0 [], .dead], []]) = some (.val (.bool true) [[.cells 0 [], .dead], []]) := lim_iff.2 ⟨200, it_wakesC⟩
end Go.Proofs.Ytcccafphhmcifaa
