/-
  What calls in the examples answer.
-/
import Derived.Test.YtcjjdaifpboaaaaTab
import Derived.Test.YtcjjdaifpboaaaaBase2
set_option linter.unusedVariables false
set_option linter.unusedSimpArgs false
set_option maxRecDepth 100000
namespace Go.Proofs.Ytcjjdaifpboaaaa
open Go Go.Abs

def N13_f : Fact := ⟨i_trial_Plan, [.agg [.int .i64 4, .int .i64 5, .lst 4 [.int .i64 0, .int .i64 1, .int .i64 6, .int .i64 9, .int .i64 1, .int .i64 2, .int .i64 0, .int .i64 3, .int .i64 2, .int .i64 3, .int .i64 4, .int .i64 7, .int .i64 2, .int .i64 0, .int .i64 5, .int .i64 5]]], [[.dead, .dead], []], .val (.tup [.nils, .int .i64 9]) [[.dead, .dead], []]⟩
theorem N13_it : it T 150 (.call false N13_f.f N13_f.args N13_f.σ) = some N13_f.r := by kernel_rfl
theorem N13 : lim T (.call false N13_f.f N13_f.args N13_f.σ) = some N13_f.r := lim_iff.2 ⟨150, N13_it⟩
def N14_f : Fact := ⟨i_trial_Clash, [.agg [.int .i64 4, .int .i64 5, .lst 3 [.int .i64 0, .int .i64 1, .int .i64 6, .int .i64 9, .int .i64 1, .int .i64 2, .int .i64 0, .int .i64 3, .int .i64 2, .int .i64 3, .int .i64 4, .int .i64 7]]], [[.dead, .dead], []], .val (.tup [.int .i64 0, .nils, .int .i64 7]) [[.dead, .dead], []]⟩
theorem N14_it : it T 150 (.call false N14_f.f N14_f.args N14_f.σ) = some N14_f.r := by kernel_rfl
theorem N14 : lim T (.call false N14_f.f N14_f.args N14_f.σ) = some N14_f.r := lim_iff.2 ⟨150, N14_it⟩
def N15_f : Fact := ⟨i_trial_Pulse, [.agg [.int .i64 4, .int .i64 5, .lst 3 [.int .i64 0, .int .i64 1, .int .i64 6, .int .i64 9, .int .i64 1, .int .i64 2, .int .i64 0, .int .i64 3, .int .i64 2, .int .i64 3, .int .i64 4, .int .i64 7]], .int .i64 3, .lst 4 [.int .i64 0, .int .i64 1, .int .i64 2, .int .i64 3]], [[.dead, .dead], []], .val (.tup [.agg [.int .i64 0, .int .i64 0, .nils], .int .i64 9]) [[.dead, .dead], []]⟩
theorem N15_it : it T 150 (.call false N15_f.f N15_f.args N15_f.σ) = some N15_f.r := by kernel_rfl
theorem N15 : lim T (.call false N15_f.f N15_f.args N15_f.σ) = some N15_f.r := lim_iff.2 ⟨150, N15_it⟩
def N16_f : Fact := ⟨i_law04_wakes, [], [[.dead, .dead, .cells 0 [.int .i64 0, .int .i64 0, .int .i64 0, .int .i64 0, .int .i64 0, .int .i64 0, .int .i64 0, .int .i64 0, .int .i64 0, .int .i64 0, .int .i64 0, .int .i64 0, .int .i64 0, .int .i64 0, .int .i64 0, .int .i64 0, .int .i64 0, .int .i64 0, .int .i64 0, .int .i64 0, .int .i64 0, .int .i64 0, .int .i64 0, .int .i64 0, .int .i64 0, .int .i64 0, .int .i64 0, .int .i64 0, .int .i64 0, .int .i64 0, .int .i64 0, .int .i64 0, .int .i64 0, .int .i64 0, .int .i64 0, .int .i64 0, .int .i64 0, .int .i64 0, .int .i64 0]], []], .val (.bool true) [[.dead, .dead, .cells 0 [.int .i64 0, .int .i64 0, .int .i64 0, .int .i64 0, .int .i64 0, .int .i64 0, .int .i64 0, .int .i64 0, .int .i64 0, .int .i64 0, .int .i64 0, .int .i64 0, .int .i64 0, .int .i64 0, .int .i64 0, .int .i64 0, .int .i64 0, .int .i64 0, .int .i64 0, .int .i64 0, .int .i64 0, .int .i64 0, .int .i64 0, .int .i64 0, .int .i64 0, .int .i64 0, .int .i64 0, .int .i64 0, .int .i64 0, .int .i64 0, .int .i64 0, .int .i64 0, .int .i64 0, .int .i64 0, .int .i64 0, .int .i64 0, .int .i64 0, .int .i64 0, .int .i64 0]], []]⟩
theorem N16_it : it T 150 (.call false N16_f.f N16_f.args N16_f.σ) = some N16_f.r := by kernel_rfl
theorem N16 : lim T (.call false N16_f.f N16_f.args N16_f.σ) = some N16_f.r := lim_iff.2 ⟨150, N16_it⟩
end Go.Proofs.Ytcjjdaifpboaaaa
