/-
  What calls in the examples answer.
-/
import Derived.Test.YtcjjdaifpboaaaaTab
import Derived.Test.YtcjjdaifpboaaaaBase2
set_option linter.unusedVariables false
set_option linter.unusedSimpArgs false
set_option maxRecDepth 100000
namespace Go.Proofs.Ytcjjdaifpboaaaa
open Go Go.Abs

def N1_f : Fact := ⟨i_trial_Capacity, [.agg [.int .i64 0, .int .i64 10, .int .i64 1, .int .i64 3, .int .i64 0, .int .i64 1, .lst 2 [.int .i64 0, .int .i64 2, .int .i64 3, .int .i64 10, .int .i64 22, .int .i64 33]], .int .i64 50], [[], []], .val (.tup [.int .i64 15, .int .i64 24, .int .i64 0]) [[], []]⟩
theorem N1_it : it T 150 (.call false N1_f.f N1_f.args N1_f.σ) = some N1_f.r := by kernel_rfl
theorem N1 : lim T (.call false N1_f.f N1_f.args N1_f.σ) = some N1_f.r := lim_iff.2 ⟨150, N1_it⟩
def N2_f : Fact := ⟨i_trial_Widest, [.agg [.int .i64 0, .int .i64 10, .int .i64 1, .int .i64 3, .int .i64 0, .int .i64 1, .lst 2 [.int .i64 0, .int .i64 2, .int .i64 3, .int .i64 10, .int .i64 22, .int .i64 33]], .lst 3 [.int .i64 0, .int .i64 10, .int .i64 20]], [[], []], .val (.tup [.int .i64 2, .int .i64 0]) [[], []]⟩
theorem N2_it : it T 150 (.call false N2_f.f N2_f.args N2_f.σ) = some N2_f.r := by kernel_rfl
theorem N2 : lim T (.call false N2_f.f N2_f.args N2_f.σ) = some N2_f.r := lim_iff.2 ⟨150, N2_it⟩
def N3_f : Fact := ⟨i_trial_Conflicts, [.agg [.int .i64 0, .int .i64 10, .int .i64 2, .int .i64 3, .int .i64 0, .int .i64 0, .lst 3 [.int .i64 0, .int .i64 2, .int .i64 3, .int .i64 10, .int .i64 22, .int .i64 33, .int .i64 20, .int .i64 0, .int .i64 9]]], [[.dead], []], .val (.tup [.lst 2 [.int .i64 (-1), .int .i64 2, .int .i64 (-1), .int .i64 2], .int .i64 0]) [[.dead], []]⟩
theorem N3_it : it T 150 (.call false N3_f.f N3_f.args N3_f.σ) = some N3_f.r := by kernel_rfl
theorem N3 : lim T (.call false N3_f.f N3_f.args N3_f.σ) = some N3_f.r := lim_iff.2 ⟨150, N3_it⟩
def N4_f : Fact := ⟨i_trial_Blame, [.agg [.int .i64 0, .int .i64 10, .int .i64 2, .int .i64 3, .int .i64 0, .int .i64 0, .lst 3 [.int .i64 0, .int .i64 2, .int .i64 3, .int .i64 10, .int .i64 22, .int .i64 33, .int .i64 20, .int .i64 0, .int .i64 9]]], [[.dead], []], .val (.tup [.int .i64 2, .int .i64 0]) [[.dead], []]⟩
theorem N4_it : it T 150 (.call false N4_f.f N4_f.args N4_f.σ) = some N4_f.r := by kernel_rfl
theorem N4 : lim T (.call false N4_f.f N4_f.args N4_f.σ) = some N4_f.r := lim_iff.2 ⟨150, N4_it⟩
end Go.Proofs.Ytcjjdaifpboaaaa
