/-
  Flashes: their parts.
-/
import Derived.Test.YtehandllpmlcoaaGreatQ1
set_option linter.unusedVariables false
set_option linter.unusedSimpArgs false
namespace Go.Proofs.YtehandllpmlcoaaGreat
open Go Go.Abs Go.Rock
variable {σ : Stack}

theorem C_validS {x : Stm} : lim T (.call false i_steam_Stream_valid [.agg x.enc] σ) = some (.val (.bool x.valid) σ) := by
  refine call_of T_steam_Stream_valid e_steam_Stream_valid rfl ?_
  unfold Stm.valid
  cases h1 : inn x.m 0 1000000
  · simp [-List.length_flatMap, -List.map_take, eF, C_swithin, h1]
  have hm := inn_iff.1 h1
  have w1 := w64 (n := 4000 * x.m) (by omega)
  have w2 := w64 (n := 10000 * x.m) (by omega)
  cases h2 : inn x.h 0 (4000 * x.m)
  · simp [-List.length_flatMap, -List.map_take, eF, C_swithin, h1, h2, w1, w2]
  cases h3 : inn x.s 0 (10000 * x.m)
  · simp [-List.length_flatMap, -List.map_take, eF, C_swithin, h1, h2, h3, w1, w2]
  cases h4 : inn x.g 0 1000000000 <;> simp [-List.length_flatMap, -List.map_take, eF, C_swithin, h1, h2, h3, h4, w1, w2]
theorem C_tat {t : List Rw} {i : Nat} {r : Rw} (h : t[i]? = some r) : lim T (.call false i_steam_Table_at [.lst t.length (t.flatMap Rw.enc), .int .i64 i] σ) = some (.val (.agg r.enc) σ) := by
  refine call_of T_steam_Table_at e_steam_Table_at rfl ?_
  have h1 : i < t.length := (List.getElem?_eq_some_iff.1 h).1
  have h2 := flat_at (f := Rw.enc) (w := 5) (fun _ => rfl) h
  simp [-List.length_flatMap, -List.map_take, eF, h1, h2]
theorem C_has {t : List Rw} {n : Int} (hl : t.length ≤ 1000000000) : lim T (.call false i_steam_Table_has [.lst t.length (t.flatMap Rw.enc), .int .i64 n] σ) = some (.val (.bool (inn n 0 ((t.length : Int) - 1))) σ) := by
  refine call_of T_steam_Table_has e_steam_Table_has rfl ?_
  have w1 := w64 (n := (t.length : Int) - 1) (by omega)
  simp [-List.length_flatMap, -List.map_take, eF, C_swithin, w1]
/-- The parts: steam, water, rest, scale. -/
def wat (r : Rw) (x : Stm) : Int × Int := if fsteam r x = 0 then (x.m, x.h) else if fsteam r x = x.m then (0, 0) else (x.m - fsteam r x, x.h - fsteam r x * r.v)
def stmH (r : Rw) (x : Stm) : Int := if fsteam r x = 0 then 0 else if fsteam r x = x.m then x.h else fsteam r x * r.v
def watG (r : Rw) (x : Stm) : Int := if fsteam r x = 0 then x.g else 0
def stmG (r : Rw) (x : Stm) : Int := if fsteam r x = 0 then 0 else x.g
def held (r : Rw) (x : Stm) : Int := min x.s ((wat r x).1 * r.s)
def parts (r : Rw) (x : Stm) : List D := [.int .i64 (fsteam r x), .int .i64 (stmH r x), .int .i64 0, .int .i64 (stmG r x), .int .i64 (wat r x).1, .int .i64 (wat r x).2, .int .i64 (held r x), .int .i64 (watG r x),
  .int .i64 (if 0 < (wat r x).1 then max 0 ((wat r x).2 - (wat r x).1 * r.l) else 0), .int .i64 (x.s - held r x)]
end Go.Proofs.YtehandllpmlcoaaGreat
