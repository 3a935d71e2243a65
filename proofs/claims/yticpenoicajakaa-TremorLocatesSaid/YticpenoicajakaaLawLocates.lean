/-
  The law TremorLocates answers true.
-/
import Derived.Test.YticpenoicajakaaK12
import Derived.Test.YticpenoicajakaaTremTy
set_option linter.unusedVariables false
set_option linter.unusedSimpArgs false
namespace Go.Proofs.Yticpenoicajakaa
open Go Go.Abs Go.Trem
variable {σ : Stack}

theorem law_Locates {n : Net} {l : List Pick} (hp : ∀ p ∈ l, 0 ≤ p.ph ∧ p.ph ≤ 255) :
    lim T (.call false i_law09_TremorLocates [.agg [.lst n.st.length (n.st.flatMap Stn.enc), .int .i64 n.s0.lo, .int .i64 n.s0.hi, .int .i64 n.s1.lo, .int .i64 n.s1.hi, .int .i64 n.low.x, .int .i64 n.low.y, .int .i64 n.low.z, .int .i64 n.high.x, .int .i64 n.high.y, .int .i64 n.high.z, .int .i64 n.step], .lst l.length (l.flatMap Pick.enc)] σ) = some (.val (.bool true) σ) := by
  refine call_of T_law09_TremorLocates e_law09_TremorLocates rfl ?_
  have hfew := fun σ => @C_few σ n l
  cases hf : (decide (n.st.length ≤ 14) && (decide (l.length ≤ 20) || (decide (60 < l.length) && decide (l.length ≤ 62))))
  · simp only [hf] at hfew
    simp [-List.length_flatMap, -List.map_take, e_law09_TremorLocates_r0, e_law09_TremorLocates_r1, e_law09_TremorLocates_r2, e_law09_TremorLocates_r3, e_law09_TremorLocates_r4, e_law09_TremorLocates_r5, e_law09_TremorLocates_r6, e_law09_TremorLocates_r7, e_law09_TremorLocates_r8, e_law09_TremorLocates_r9, e_law09_TremorLocates_r10, hfew, C_awake]
  simp only [hf] at hfew
  simp only [Bool.and_eq_true, Bool.or_eq_true, decide_eq_true_eq] at hf
  have hn : n.st.length ≤ 100000 := by omega
  have hl : l.length ≤ 100000 := by omega
  have h1 := fun σ (hσ : σ ≠ []) => @C_Net σ n hn hσ
  have h2 := fun σ (hσ : σ ≠ []) => @C_PicksL σ l hl hσ
  have h3 := fun σ (hσ : σ ≠ []) => @C_LocateP σ n l (by omega) (by omega) hp hσ
  have h4 := fun σ => @C_wrong σ n l (by omega) (by omega) fun p hp' => (hp p hp').1
  by_cases hw : wrong n l = 0
  rotate_left
  · have hw' : (wrong n l != 0) = true := by simpa using hw
    simp only [hw, if_false] at h3
    simp [-List.length_flatMap, -List.map_take, e_law09_TremorLocates_r0, e_law09_TremorLocates_r1, e_law09_TremorLocates_r2, e_law09_TremorLocates_r3, e_law09_TremorLocates_r4, e_law09_TremorLocates_r5, e_law09_TremorLocates_r6, e_law09_TremorLocates_r7, e_law09_TremorLocates_r8, e_law09_TremorLocates_r9, e_law09_TremorLocates_r10, hfew, h1, h2, h3, h4, hw', C_awake]
  obtain ⟨hd, hl1⟩ := wrong_hd hw hp
  have h5 := fun σ (hσ : σ ≠ []) => @C_LocateR σ n l hd hl1 hσ
  have hlen : (located n l).length ≤ 100000 := by
    have := (net_bx hd.ok).len
    have h := List.length_filterMap_le (locOf n l) (lattice n)
    rw [located_eq] at h
    omega
  have h6 := fun σ => @C_locatedL σ (located n l) (by omega)
  by_cases h0 : (located n l).length = 0
  · have h00 : located n l = [] := List.eq_nil_of_length_eq_zero h0
    rw [h00] at h5
    simp only [hw, h0, if_true] at h3
    simp at h5
    simp [-List.length_flatMap, -List.map_take, e_law09_TremorLocates_r0, e_law09_TremorLocates_r1, e_law09_TremorLocates_r2, e_law09_TremorLocates_r3, e_law09_TremorLocates_r4, e_law09_TremorLocates_r5, e_law09_TremorLocates_r6, e_law09_TremorLocates_r7, e_law09_TremorLocates_r8, e_law09_TremorLocates_r9, e_law09_TremorLocates_r10, hfew, h1, h2, h3, h4, h5, hw, C_awake]
  · have h00 : located n l ≠ [] := by rintro h; rw [h] at h0; simp at h0
    have h01 : (((located n l).length : Int) == 0) = false := by simpa using h00
    simp only [hw, h0, if_true, if_false] at h3
    simp [-List.length_flatMap, -List.map_take, e_law09_TremorLocates_r0, e_law09_TremorLocates_r1, e_law09_TremorLocates_r2, e_law09_TremorLocates_r3, e_law09_TremorLocates_r4, e_law09_TremorLocates_r5, e_law09_TremorLocates_r6, e_law09_TremorLocates_r7, e_law09_TremorLocates_r8, e_law09_TremorLocates_r9, e_law09_TremorLocates_r10, hfew, h1, h2, h3, h4, h5, h6, hw, h01, C_awake]

theorem go_TremorLocates (x0 x1 : D) (t0 : tyNet.hasV x0) (t1 : (Ty.slice 4 tyPick).hasV x1) : ∃ σ', lim T (.call false i_law09_TremorLocates [x0, x1] [[]]) = some (.val (.bool true) σ') := by
  obtain ⟨n, rfl, _⟩ := net_of t0
  obtain ⟨l, rfl, _, hp⟩ := rows_of (fun ds h => pick_of h) t1
  exact ⟨_, law_Locates hp⟩
end Go.Proofs.Yticpenoicajakaa
