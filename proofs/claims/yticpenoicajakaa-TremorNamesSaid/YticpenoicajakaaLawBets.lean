/-
  The law TremorBets answers true.
-/
import Derived.Test.YticpenoicajakaaK12
import Derived.Test.YticpenoicajakaaTremTy
set_option linter.unusedVariables false
set_option linter.unusedSimpArgs false
namespace Go.Proofs.Yticpenoicajakaa
open Go Go.Abs Go.Trem
variable {σ : Stack}

def wins (b : Bet) (n : Int) : Bool := decide (1000000 * b.odds ≤ n)

theorem C_won1 {b : Bet} (hb : b.ok = true) {n : Int} : lim T (.call false i_tremor_Won_1 [.int .i64 n, .cref b.enc] σ) = some (.val (.bool (wins b n)) σ) := by
  refine call_of T_tremor_Won_1 e_tremor_Won_1 rfl ?_
  rw [bet_iff] at hb
  have hw := w64 (n := 1000000 * b.odds) (by omega)
  simp [-List.length_flatMap, -List.map_take, e_tremor_Won_1_r0, e_tremor_Won_1_r1, hw, wins]

theorem C_Won {b : Bet} {hits : List Bool} (hl : hits.length ≤ 9223372036854775807) (hσ : σ ≠ []) :
    lim T (.call false i_tremor_Won [.agg [.int .i64 b.num, .int .i64 b.den, .int .i64 b.a, .int .i64 b.b, .int .i64 b.odds], .lst hits.length (hits.flatMap boolE)] σ) =
      some (.val (if b.ok then (if 2000 < hits.length then .tup [.int .i64 0, .int .i64 3] else if 0 ≤ idxOf (wins b) (caps b 1000000 hits) then .tup [.int .i64 (idxOf (wins b) (caps b 1000000 hits)), .int .i64 0] else .tup [.int .i64 0, .int .i64 7]) else .tup [.int .i64 0, .int .i64 1]) σ) := by
  refine call_of T_tremor_Won e_tremor_Won rfl ?_
  have h1 := fun σ (hσ : σ ≠ []) => @C_Capital σ b hits hl hσ
  cases c1 : b.ok
  · simp only [c1, Bool.false_eq_true, if_false] at h1
    simp [-List.length_flatMap, -List.map_take, e_tremor_Won_r0, e_tremor_Won_r1, e_tremor_Won_r2, e_tremor_Won_r3, e_tremor_Won_r4, e_tremor_Won_r5, e_tremor_Won_r6, e_tremor_Won_r7, h1]
  by_cases c2 : 2000 < hits.length
  · simp only [c1, c2, if_true] at h1
    simp [-List.length_flatMap, -List.map_take, e_tremor_Won_r0, e_tremor_Won_r1, e_tremor_Won_r2, e_tremor_Won_r3, e_tremor_Won_r4, e_tremor_Won_r5, e_tremor_Won_r6, e_tremor_Won_r7, h1, c2]
  simp only [c1, c2, if_true, if_false] at h1
  have hcl := caps_len (b := b) hits 1000000
  have h2 : ∀ σ, lim T (.call false i_slices_IndexFunc_int [.lst (caps b 1000000 hits).length ((caps b 1000000 hits).flatMap intE), .fn i_tremor_Won_1 [] [.cref b.enc]] σ) = some (.val (.int .i64 (idxOf (wins b) (caps b 1000000 hits))) σ) := fun σ =>
    index_of (eltInt .i64) T_slices_IndexFunc_int (by omega) (.fn fun n _ σ => C_won1 c1)
  simp only [Bet.enc] at h2
  by_cases c3 : 0 ≤ idxOf (wins b) (caps b 1000000 hits)
  · simp [-List.length_flatMap, -List.map_take, e_tremor_Won_r0, e_tremor_Won_r1, e_tremor_Won_r2, e_tremor_Won_r3, e_tremor_Won_r4, e_tremor_Won_r5, e_tremor_Won_r6, e_tremor_Won_r7, h1, h2, c2, c3]
  · simp [-List.length_flatMap, -List.map_take, e_tremor_Won_r0, e_tremor_Won_r1, e_tremor_Won_r2, e_tremor_Won_r3, e_tremor_Won_r4, e_tremor_Won_r5, e_tremor_Won_r6, e_tremor_Won_r7, h1, h2, c2, c3]

theorem idxOf_cons_neg {α : Type} {p : α → Bool} {x : α} {l : List α} (h : p x = false) : idxOf p (x :: l) = if idxOf p l < 0 then -1 else idxOf p l + 1 := by
  simp [idxOf, h]

end Go.Proofs.Yticpenoicajakaa
