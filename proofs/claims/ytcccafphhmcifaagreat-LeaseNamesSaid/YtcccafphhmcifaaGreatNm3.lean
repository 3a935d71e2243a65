/-
  What a call in the examples answers.
-/
import Derived.Test.YtcccafphhmcifaaGreatTab
import Derived.Test.YtcccafphhmcifaaGreatBase2
set_option linter.unusedVariables false
set_option linter.unusedSimpArgs false
set_option maxRecDepth 100000
namespace Go.Proofs.YtcccafphhmcifaaGreat
open Go Go.Abs

def N3_f : Fact := ⟨i_lease_Drill, [.agg [.int .i64 10, .int .i64 6, .int .i64 900, .int .i64 0, .lst 3 [.int .i64 12, .int .i64 5, .int .i64 14, .int .i64 4, .int .i64 15, .int .i64 9]]], [[], []], .val (.tup [.lst 0 [], .int .i64 0, .lst 0 [], .int .i64 7]) [[], []]⟩
theorem N3_it : it T 150 (.call false N3_f.f N3_f.args N3_f.σ) = some N3_f.r := by kernel_rfl
theorem N3 : lim T (.call false N3_f.f N3_f.args N3_f.σ) = some N3_f.r := lim_iff.2 ⟨150, N3_it⟩
end Go.Proofs.YtcccafphhmcifaaGreat
