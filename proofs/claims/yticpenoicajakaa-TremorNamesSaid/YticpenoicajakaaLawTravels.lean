/-
  The law TremorTravels answers true.
-/
import Derived.Test.YticpenoicajakaaK12
import Derived.Test.YticpenoicajakaaTremTy
set_option linter.unusedVariables false
set_option linter.unusedSimpArgs false
namespace Go.Proofs.Yticpenoicajakaa
open Go Go.Abs Go.Trem
variable {σ : Stack}

theorem C_CheckNet {n : Net} (hn : n.st.length ≤ 9223372036854775807) : lim T (.call false i_tremor_CheckNet [.agg [.lst n.st.length (n.st.flatMap Stn.enc), .int .i64 n.s0.lo, .int .i64 n.s0.hi, .int .i64 n.s1.lo, .int .i64 n.s1.hi, .int .i64 n.low.x, .int .i64 n.low.y, .int .i64 n.low.z, .int .i64 n.high.x, .int .i64 n.high.y, .int .i64 n.high.z, .int .i64 n.step]] σ) = some (.val (.int .i64 (if n.ok then 0 else 1)) σ) := by
  refine call_of T_tremor_CheckNet e_tremor_CheckNet rfl ?_
  cases c : n.ok <;> simp [-List.length_flatMap, -List.map_take, e_tremor_CheckNet_r0, e_tremor_CheckNet_r1, e_tremor_CheckNet_r2, e_tremor_CheckNet_r3, C_nvalid hn, c]

end Go.Proofs.Yticpenoicajakaa
