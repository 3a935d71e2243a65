/-
  The document's first examples.
-/
import Derived.Test.YtcjjdaifpboaaaaTab
import Derived.Test.YtcjjdaifpboaaaaBase2
import Derived.ProofKit
set_option linter.unusedVariables false
set_option linter.unusedSimpArgs false
set_option maxRecDepth 100000
namespace Go.Proofs.Ytcjjdaifpboaaaa
open Go Go.Abs

theorem it_wakes : it T 150 (.call false i_law04_wakes [] [[], []]) = some (.val (.bool true) [[], []]) := by kernel_rfl
theorem C_wakes : lim T (.call false i_law04_wakes [] [[], []]) = some (.val (.bool true) [[], []]) := lim_iff.2 ⟨150, it_wakes⟩
theorem it_wakesD : it T 150 (.call false i_law04_wakes [] [[.dead], []]) = some (.val (.bool true) [[.dead], []]) := by kernel_rfl
theorem C_wakesD : lim T (.call false i_law04_wakes [] [[.dead], []]) = some (.val (.bool true) [[.dead], []]) := lim_iff.2 ⟨150, it_wakesD⟩
end Go.Proofs.Ytcjjdaifpboaaaa
