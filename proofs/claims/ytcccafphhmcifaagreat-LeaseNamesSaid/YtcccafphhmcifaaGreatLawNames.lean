/-
  The law LeaseNames answers true: a closed statement.
-/
import Derived.Test.YtcccafphhmcifaaGreatNm1
import Derived.Test.YtcccafphhmcifaaGreatNm2
import Derived.Test.YtcccafphhmcifaaGreatNm3
import Derived.Test.YtcccafphhmcifaaGreatNm4
set_option linter.unusedVariables false
set_option linter.unusedSimpArgs false
set_option maxRecDepth 100000
namespace Go.Proofs.YtcccafphhmcifaaGreat
open Go Go.Abs

def facts : List Fact := [N1_f, N2_f, N3_f, N4_f]
theorem facts_ok : ∀ p ∈ facts, lim T (.call false p.f p.args p.σ) = some p.r := by
  simp only [facts, List.forall_mem_cons]
  exact ⟨N1, N2, N3, N4, by simp⟩
theorem it_names : stepQ T (OF T 100 facts) (.call false i_law11_LeaseNames [] [[]]) = some (.val (.bool true) [[]]) := by kernel_rfl
theorem go_LeaseNames : ∃ σ', lim T (.call false i_law11_LeaseNames [] [[]]) = some (.val (.bool true) σ') := ⟨_, OF_step facts_ok it_names⟩
end Go.Proofs.YtcccafphhmcifaaGreat
