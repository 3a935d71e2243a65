/-
  The document's first examples of layer 11, behind two blocks that are written out.
-/
import Derived.Test.YtcccafphhmcifaaGreatTab
import Derived.Test.YtcccafphhmcifaaGreatBase2
set_option linter.unusedVariables false
set_option linter.unusedSimpArgs false
set_option maxRecDepth 100000
namespace Go.Proofs.YtcccafphhmcifaaGreat
open Go Go.Abs

theorem it_wakesDD : it T 200 (.call false i_law11_wakes [] [[.dead, .dead], []]) = some (.val (.bool true) [[.dead, .dead], []]) := by kernel_rfl
theorem C_wakesDD : lim T (.call false i_law11_wakes [] [[.dead, .dead], []]) = some (.val (.bool true) [[.dead, .dead], []]) := lim_iff.2 ⟨200, it_wakesDD⟩
end Go.Proofs.YtcccafphhmcifaaGreat
