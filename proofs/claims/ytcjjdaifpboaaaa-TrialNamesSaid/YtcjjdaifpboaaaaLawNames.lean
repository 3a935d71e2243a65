/-
  The law TrialNames answers true: a closed statement.
-/
import Derived.Test.YtcjjdaifpboaaaaNm1
import Derived.Test.YtcjjdaifpboaaaaNm2
import Derived.Test.YtcjjdaifpboaaaaNm3
import Derived.Test.YtcjjdaifpboaaaaNm4
set_option linter.unusedVariables false
set_option linter.unusedSimpArgs false
set_option maxRecDepth 100000
namespace Go.Proofs.Ytcjjdaifpboaaaa
open Go Go.Abs

def facts : List Fact := [N1_f, N2_f, N3_f, N4_f, N5_f, N6_f, N7_f, N8_f, N9_f, N10_f, N11_f, N12_f, N13_f, N14_f, N15_f, N16_f]
theorem facts_ok : ∀ p ∈ facts, lim T (.call false p.f p.args p.σ) = some p.r := by
  simp only [facts, List.forall_mem_cons]
  exact ⟨N1, N2, N3, N4, N5, N6, N7, N8, N9, N10, N11, N12, N13, N14, N15, N16, by simp⟩
theorem it_names : stepQ T (OF T 100 facts) (.call false i_law04_TrialNames [] [[]]) = some (.val (.bool true) [[]]) := by kernel_rfl
theorem go_TrialNames : ∃ σ', lim T (.call false i_law04_TrialNames [] [[]]) = some (.val (.bool true) σ') := ⟨_, OF_step facts_ok it_names⟩
end Go.Proofs.Ytcjjdaifpboaaaa
