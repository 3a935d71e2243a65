/-
  What calls in the examples answer.
-/
import Derived.Test.YtcjjdaifpboaaaaTab
import Derived.Test.YtcjjdaifpboaaaaBase2
set_option linter.unusedVariables false
set_option linter.unusedSimpArgs false
set_option maxRecDepth 100000
namespace Go.Proofs.Ytcjjdaifpboaaaa
open Go Go.Abs

def N9_f : Fact := ⟨i_trial_ProveNone, [.agg [.int .i64 0, .int .i64 10, .int .i64 2, .int .i64 3, .int .i64 0, .int .i64 0, .lst 3 [.int .i64 0, .int .i64 2, .int .i64 3, .int .i64 10, .int .i64 22, .int .i64 33, .int .i64 20, .int .i64 0, .int .i64 9]], .lst 2 [.int .i64 2, .int .i64 1, .int .i64 1, .int .i64 2]], [[.dead], []], .val (.bool false) [[.dead], []]⟩
theorem N9_it : it T 150 (.call false N9_f.f N9_f.args N9_f.σ) = some N9_f.r := by kernel_rfl
theorem N9 : lim T (.call false N9_f.f N9_f.args N9_f.σ) = some N9_f.r := lim_iff.2 ⟨150, N9_it⟩
def N10_f : Fact := ⟨i_trial_Relations, [.agg [.int .i64 4, .int .i64 5, .lst 3 [.int .i64 0, .int .i64 1, .int .i64 6, .int .i64 9, .int .i64 1, .int .i64 2, .int .i64 0, .int .i64 3, .int .i64 2, .int .i64 3, .int .i64 4, .int .i64 7]]], [[.dead], []], .val (.tup [.lst 4 [.lst 4 [.int .u8 2, .int .u8 2, .int .u8 0, .int .u8 1], .lst 4 [.int .u8 2, .int .u8 2, .int .u8 0, .int .u8 1], .lst 4 [.int .u8 0, .int .u8 0, .int .u8 2, .int .u8 1], .lst 4 [.int .u8 1, .int .u8 1, .int .u8 1, .int .u8 2]], .int .i64 0]) [[.dead], []]⟩
theorem N10_it : it T 150 (.call false N10_f.f N10_f.args N10_f.σ) = some N10_f.r := by kernel_rfl
theorem N10 : lim T (.call false N10_f.f N10_f.args N10_f.σ) = some N10_f.r := lim_iff.2 ⟨150, N10_it⟩
def N11_f : Fact := ⟨i_trial_Pulse, [.agg [.int .i64 4, .int .i64 5, .lst 3 [.int .i64 0, .int .i64 1, .int .i64 6, .int .i64 9, .int .i64 1, .int .i64 2, .int .i64 0, .int .i64 3, .int .i64 2, .int .i64 3, .int .i64 4, .int .i64 7]], .int .i64 3, .lst 4 [.int .i64 0, .int .i64 0, .int .i64 1, .int .i64 1]], [[.dead], []], .val (.tup [.agg [.int .i64 4, .int .i64 5, .lst 6 [.int .i64 0, .int .i64 1, .int .i64 6, .int .i64 9, .int .i64 1, .int .i64 2, .int .i64 0, .int .i64 3, .int .i64 2, .int .i64 3, .int .i64 4, .int .i64 7, .int .i64 3, .int .i64 0, .int .i64 4, .int .i64 4, .int .i64 3, .int .i64 1, .int .i64 4, .int .i64 4, .int .i64 3, .int .i64 2, .int .i64 5, .int .i64 5]], .int .i64 0]) [[.dead], []]⟩
theorem N11_it : it T 150 (.call false N11_f.f N11_f.args N11_f.σ) = some N11_f.r := by kernel_rfl
theorem N11 : lim T (.call false N11_f.f N11_f.args N11_f.σ) = some N11_f.r := lim_iff.2 ⟨150, N11_it⟩
def N12_f : Fact := ⟨i_trial_Clash, [.agg [.int .i64 4, .int .i64 5, .lst 4 [.int .i64 0, .int .i64 1, .int .i64 6, .int .i64 9, .int .i64 1, .int .i64 2, .int .i64 0, .int .i64 3, .int .i64 2, .int .i64 3, .int .i64 4, .int .i64 7, .int .i64 2, .int .i64 0, .int .i64 5, .int .i64 5]]], [[.dead, .dead], []], .val (.tup [.int .i64 1, .lst 3 [.int .i64 1, .int .i64 0, .int .i64 2], .int .i64 0]) [[.dead, .dead], []]⟩
theorem N12_it : it T 150 (.call false N12_f.f N12_f.args N12_f.σ) = some N12_f.r := by kernel_rfl
theorem N12 : lim T (.call false N12_f.f N12_f.args N12_f.σ) = some N12_f.r := lim_iff.2 ⟨150, N12_it⟩
end Go.Proofs.Ytcjjdaifpboaaaa
