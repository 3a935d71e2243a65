/-
  What a bed with a model is, or an error; rates and plans.
-/
import Derived.Test.YtehandllpmlcoaaGreatR4
set_option linter.unusedVariables false
set_option linter.unusedSimpArgs false
namespace Go.Proofs.YtehandllpmlcoaaGreat
open Go Go.Abs Go.Rock
variable {σ : Stack}

theorem C_bvalid {b : Bed} (h1 : b.tab.length ≤ 1000000000) (h2 : b.wells.length ≤ 1000000000) : lim T (.call false i_rock_Bed_valid [.agg [.int .i64 b.f.x, .int .i64 b.f.y, .int .i64 b.f.z, .int .i64 b.f.k, .lst b.tab.length (b.tab.flatMap Rw.enc), .int .i64 b.stiff, .int .i64 b.lift, .int .i64 b.deep, .lst b.wells.length (b.wells.flatMap Bore.enc)]] σ) = some (.val (.bool b.valid) σ) := by
  refine call_of T_rock_Bed_valid e_rock_Bed_valid rfl ?_
  have hT := fun σ => C_CheckTable (σ := σ) (l := b.tab) h1
  unfold Bed.valid Bed.ok1
  cases hc1 : b.f.valid
  · simp [-List.length_flatMap, -List.map_take, eF, C_CheckField, Fld.shape, hc1]
  by_cases hc2 : b.f.k < 4
  · simp [-List.length_flatMap, -List.map_take, eF, C_CheckField, Fld.shape, hc1, hc2, show ¬ 4 ≤ b.f.k by omega]
  have hc2' : 4 ≤ b.f.k := by omega
  cases hc3 : tabOk b.tab
  · simp [-List.length_flatMap, -List.map_take, eF, C_CheckField, Fld.shape, hc1, hc2, hT, hc3]
  cases hc4 : inn b.stiff 1 100000
  · simp [-List.length_flatMap, -List.map_take, eF, C_CheckField, Fld.shape, hc1, hc2, hT, hc3, C_rwithin, hc4]
  cases hc5 : inn b.lift 0 1000
  · simp [-List.length_flatMap, -List.map_take, eF, C_CheckField, Fld.shape, hc1, hc2, hT, hc3, C_rwithin, hc4, hc5]
  cases hc6 : inn b.deep 0 3000
  · simp [-List.length_flatMap, -List.map_take, eF, C_CheckField, Fld.shape, hc1, hc2, hT, hc3, C_rwithin, hc4, hc5, hc6]
  by_cases hc7 : 8 < b.wells.length
  · simp [-List.length_flatMap, -List.map_take, eF, C_CheckField, Fld.shape, hc1, hc2, hT, hc3, C_rwithin, hc4, hc5, hc6, hc7, show ¬ b.wells.length ≤ 8 by omega, show (8 : Int) < b.wells.length by omega]
  obtain ⟨g1, g2, g3, g4, g5⟩ := Fld.valid_iff.1 hc1
  obtain ⟨_, g6⟩ := Fld.sz g1 g2 g3
  have hsz := fun σ => C_rsize (σ := σ) (b := b) g1 g2 g3
  have hs : b.size = ((b.n : Nat) : Int) := by unfold Bed.n Bed.size Fld.size; omega
  have hn : b.n ≤ 512 := by unfold Bed.n Bed.size Fld.size; omega
  have hnil : ((List.range b.n).flatMap fun _ => [D.bool false]) = (List.replicate b.n false).flatMap boolE := by
    have : ∀ n, ((List.range n).flatMap fun _ => [D.bool false]) = (List.replicate n false).flatMap boolE := by
      intro n
      induction n with
      | zero => rfl
      | succ n ih => rw [List.range_succ, List.flatMap_append, ih, List.replicate_succ']; simp [boolE]
    exact this _
  obtain ⟨s, hall⟩ := C_wellsAll (σ := σ) (n := b.n) (wells := b.wells) hn h2
  rw [← hs] at hall
  have hroom : (b.n : Int) ≤ 70368744177664 := by omega
  rw [hs] at hsz
  simp [-List.length_flatMap, -List.map_take, eF, C_CheckField, Fld.shape, hc1, hc2, hT, hc3, C_rwithin, hc4, hc5, hc6, show ¬ (8 : Int) < b.wells.length by omega, show b.wells.length ≤ 8 by omega, hsz, room, hroom, hnil, hall, hc2']
end Go.Proofs.YtehandllpmlcoaaGreat
