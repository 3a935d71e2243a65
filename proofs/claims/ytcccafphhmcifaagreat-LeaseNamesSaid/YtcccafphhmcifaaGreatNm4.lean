/-
  What a call in the examples answers.
-/
import Derived.Test.YtcccafphhmcifaaGreatTab
import Derived.Test.YtcccafphhmcifaaGreatBase2
set_option linter.unusedVariables false
set_option linter.unusedSimpArgs false
set_option maxRecDepth 100000
namespace Go.Proofs.YtcccafphhmcifaaGreat
open Go Go.Abs

def N4_f : Fact := ⟨i_law11_wakes, [], [[], []], .val (.bool true) [[], []]⟩
theorem N4_it : it T 150 (.call false N4_f.f N4_f.args N4_f.σ) = some N4_f.r := by kernel_rfl
theorem N4 : lim T (.call false N4_f.f N4_f.args N4_f.σ) = some N4_f.r := lim_iff.2 ⟨150, N4_it⟩
end Go.Proofs.YtcccafphhmcifaaGreat
