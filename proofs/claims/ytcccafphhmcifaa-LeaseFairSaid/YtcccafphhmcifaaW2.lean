/-
  The document's first examples of layer 11, behind a block that is written out.
-/
import Derived.Test.YtcccafphhmcifaaTab
import Derived.Test.YtcccafphhmcifaaBase2
set_option linter.unusedVariables false
set_option linter.unusedSimpArgs false
set_option maxRecDepth 100000
namespace Go.Proofs.Ytcccafphhmcifaa
open Go Go.Abs

theorem it_wakesD : it T 200 (.call false i_law11_wakes [] [[.dead], []]) = some (.val (.bool true) [[.dead], []]) := by kernel_rfl
theorem C_wakesD : lim T (.call false i_law11_wakes [] [[.dead], []]) = some (.val (.bool true) [[.dead], []]) := lim_iff.2 ⟨200, it_wakesD⟩
end Go.Proofs.Ytcccafphhmcifaa
