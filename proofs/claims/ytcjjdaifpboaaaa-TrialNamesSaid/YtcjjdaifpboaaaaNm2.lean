/-
  What calls in the examples answer.
-/
import Derived.Test.YtcjjdaifpboaaaaTab
import Derived.Test.YtcjjdaifpboaaaaBase2
set_option linter.unusedVariables false
set_option linter.unusedSimpArgs false
set_option maxRecDepth 100000
namespace Go.Proofs.Ytcjjdaifpboaaaa
open Go Go.Abs

def N5_f : Fact := ⟨i_trial_Curves, [.agg [.int .i64 0, .int .i64 10, .int .i64 2, .int .i64 3, .int .i64 0, .int .i64 0, .lst 3 [.int .i64 0, .int .i64 2, .int .i64 3, .int .i64 10, .int .i64 22, .int .i64 33, .int .i64 20, .int .i64 0, .int .i64 9]]], [[.dead], []], .val (.tup [.int .i64 0, .agg [.int .i64 0, .int .i64 0], .agg [.int .i64 0, .int .i64 0], .agg [.int .i64 0, .int .i64 0], .int .i64 7]) [[.dead], []]⟩
theorem N5_it : it T 150 (.call false N5_f.f N5_f.args N5_f.σ) = some N5_f.r := by kernel_rfl
theorem N5 : lim T (.call false N5_f.f N5_f.args N5_f.σ) = some N5_f.r := lim_iff.2 ⟨150, N5_it⟩
def N6_f : Fact := ⟨i_trial_ProveNone, [.agg [.int .i64 0, .int .i64 10, .int .i64 2, .int .i64 3, .int .i64 0, .int .i64 0, .lst 3 [.int .i64 0, .int .i64 2, .int .i64 3, .int .i64 10, .int .i64 22, .int .i64 33, .int .i64 20, .int .i64 0, .int .i64 9]], .lst 2 [.int .i64 (-1), .int .i64 2, .int .i64 (-1), .int .i64 2]], [[.dead], []], .val (.bool true) [[.dead], []]⟩
theorem N6_it : it T 150 (.call false N6_f.f N6_f.args N6_f.σ) = some N6_f.r := by kernel_rfl
theorem N6 : lim T (.call false N6_f.f N6_f.args N6_f.σ) = some N6_f.r := lim_iff.2 ⟨150, N6_it⟩
def N7_f : Fact := ⟨i_trial_ProveNone, [.agg [.int .i64 0, .int .i64 10, .int .i64 2, .int .i64 3, .int .i64 0, .int .i64 0, .lst 3 [.int .i64 0, .int .i64 2, .int .i64 3, .int .i64 10, .int .i64 22, .int .i64 33, .int .i64 20, .int .i64 0, .int .i64 9]], .lst 2 [.int .i64 1, .int .i64 2, .int .i64 0, .int .i64 2]], [[.dead], []], .val (.bool true) [[.dead], []]⟩
theorem N7_it : it T 150 (.call false N7_f.f N7_f.args N7_f.σ) = some N7_f.r := by kernel_rfl
theorem N7 : lim T (.call false N7_f.f N7_f.args N7_f.σ) = some N7_f.r := lim_iff.2 ⟨150, N7_it⟩
def N8_f : Fact := ⟨i_trial_ProveNone, [.agg [.int .i64 0, .int .i64 10, .int .i64 2, .int .i64 3, .int .i64 0, .int .i64 0, .lst 3 [.int .i64 0, .int .i64 2, .int .i64 3, .int .i64 10, .int .i64 22, .int .i64 33, .int .i64 20, .int .i64 0, .int .i64 9]], .lst 1 [.int .i64 (-1), .int .i64 2]], [[.dead], []], .val (.bool false) [[.dead], []]⟩
theorem N8_it : it T 150 (.call false N8_f.f N8_f.args N8_f.σ) = some N8_f.r := by kernel_rfl
theorem N8 : lim T (.call false N8_f.f N8_f.args N8_f.σ) = some N8_f.r := lim_iff.2 ⟨150, N8_it⟩
end Go.Proofs.Ytcjjdaifpboaaaa
