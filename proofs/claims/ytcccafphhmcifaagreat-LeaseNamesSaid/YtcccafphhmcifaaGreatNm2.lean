/-
  What a call in the examples answers.
-/
import Derived.Test.YtcccafphhmcifaaGreatTab
import Derived.Test.YtcccafphhmcifaaGreatBase2
set_option linter.unusedVariables false
set_option linter.unusedSimpArgs false
set_option maxRecDepth 100000
namespace Go.Proofs.YtcccafphhmcifaaGreat
open Go Go.Abs

def N2_f : Fact := ⟨i_lease_Least, [.agg [.int .i64 10, .int .i64 6, .int .i64 900, .int .i64 2, .lst 3 [.int .i64 12, .int .i64 5, .int .i64 14, .int .i64 4, .int .i64 15, .int .i64 9]], .int .i64 2, .int .i64 15], [[], []], .val (.tup [.int .i64 0, .int .i64 0]) [[], []]⟩
theorem N2_it : it T 150 (.call false N2_f.f N2_f.args N2_f.σ) = some N2_f.r := by kernel_rfl
theorem N2 : lim T (.call false N2_f.f N2_f.args N2_f.σ) = some N2_f.r := lim_iff.2 ⟨150, N2_it⟩
end Go.Proofs.YtcccafphhmcifaaGreat
