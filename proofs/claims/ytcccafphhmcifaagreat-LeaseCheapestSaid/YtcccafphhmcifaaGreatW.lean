/-
  The document's first examples of layer 11.
-/
import Derived.Test.YtcccafphhmcifaaGreatTab
import Derived.Test.YtcccafphhmcifaaGreatBase2
set_option linter.unusedVariables false
set_option linter.unusedSimpArgs false
set_option maxRecDepth 100000
namespace Go.Proofs.YtcccafphhmcifaaGreat
open Go Go.Abs

theorem it_wakes : it T 200 (.call false i_law11_wakes [] [[], []]) = some (.val (.bool true) [[], []]) := by kernel_rfl
theorem C_wakes : lim T (.call false i_law11_wakes [] [[], []]) = some (.val (.bool true) [[], []]) := lim_iff.2 ⟨200, it_wakes⟩
end Go.Proofs.YtcccafphhmcifaaGreat
