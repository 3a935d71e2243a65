/-
  Programmes of layer 11: the document's first examples, whatever the store.
-/
import Derived.Test.YtcccafphhmcifaaGreatE13
import Derived.Test.YtcccafphhmcifaaGreatD1
import Derived.Test.YtcccafphhmcifaaGreatP3
import Derived.Test.YtcccafphhmcifaaGreatG3
set_option linter.unusedVariables false
set_option linter.unusedSimpArgs false
namespace Go.Proofs.YtcccafphhmcifaaGreat
open Go Go.Abs Go.Lease
variable {σ : Stack}

theorem C_tracts : lim T (.call false i_law11_tracts [] σ) = some (.val (.agg [.int .i64 3, .lst 2 [.lst 3 [.int .i64 333, .int .i64 667, .int .i64 0], .lst 3 [.int .i64 500, .int .i64 0, .int .i64 250]]]) σ) := by
  refine call_of T_law11_tracts e_law11_tracts rfl ?_
  simp [-List.length_flatMap, -List.map_take, e_law11_tracts_r0, e_law11_tracts_r1]
theorem C_pool : lim T (.call false i_law11_pool [] σ) = some (.val (.lst 1 [.int .i64 10, .int .i64 8, .lst 2 [.int .i64 100, .int .i64 200, .int .i64 0, .int .i64 50]]) σ) := by
  refine call_of T_law11_pool e_law11_pool rfl ?_
  simp [-List.length_flatMap, -List.map_take, e_law11_pool_r0, e_law11_pool_r1]
theorem C_drilled : lim T (.call false i_law11_drilled [] σ) = some (.val (.agg [.int .i64 10, .int .i64 6, .int .i64 900, .int .i64 2, .lst 3 [.int .i64 12, .int .i64 5, .int .i64 14, .int .i64 4, .int .i64 15, .int .i64 9]]) σ) := by
  refine call_of T_law11_drilled e_law11_drilled rfl ?_
  simp [-List.length_flatMap, -List.map_take, e_law11_drilled_r0, e_law11_drilled_r1]
def exP : Pg := ⟨10, 6, 900, 2, [⟨12, 5⟩, ⟨14, 4⟩, ⟨15, 9⟩]⟩
theorem C_wakesG (hσ : σ ≠ []) : lim T (.call false i_law11_wakes [] σ) = some (.val (.bool true) σ) := by
  refine call_of T_law11_wakes e_law11_wakes rfl ?_
  have h1 : ∀ σ : Stack, σ ≠ [] → lim T (.call false i_lease_Due [.agg [.int .i64 3, .lst 2 [.lst 3 [.int .i64 333, .int .i64 667, .int .i64 0], .lst 3 [.int .i64 500, .int .i64 0, .int .i64 250]]], .lst 2 [.int .i64 10, .int .i64 7]] σ) = some (.val (.tup [.lst 3 [.int .i64 6, .int .i64 6, .int .i64 1], .int .i64 4, .int .i64 0]) σ) := fun σ hσ => by
    have h := C_Due (σ := σ) (c := ⟨3, [[333, 667, 0], [500, 0, 250]]⟩) ⟨by decide, by decide⟩ (ms := [10, 7]) (by decide) hσ
    have e : due3 ⟨3, [[333, 667, 0], [500, 0, 250]]⟩ [10, 7] = .tup [.lst 3 [.int .i64 6, .int .i64 6, .int .i64 1], .int .i64 4, .int .i64 0] := by kernel_rfl
    rw [e] at h
    exact h
  have h2 : ∀ σ : Stack, σ ≠ [] → lim T (.call false i_lease_Split [.int .i64 10, .lst 3 [.int .i64 1, .int .i64 1, .int .i64 1]] σ) = some (.val (.tup [.lst 3 [.int .i64 4, .int .i64 3, .int .i64 3], .int .i64 0]) σ) := fun σ hσ => by
    have h := C_Split (σ := σ) (a := 10) (ws := [1, 1, 1]) (by decide) hσ
    have e : splD 10 [1, 1, 1] = .tup [.lst 3 [.int .i64 4, .int .i64 3, .int .i64 3], .int .i64 0] := by kernel_rfl
    rw [e] at h
    exact h
  have h3 : ∀ σ : Stack, lim T (.call false i_lease_Room [.lst 1 [.int .i64 10, .int .i64 8, .lst 2 [.int .i64 100, .int .i64 200, .int .i64 0, .int .i64 50]], .lst 2 [.int .i64 4, .int .i64 10], .int .i64 1] σ) = some (.val (.tup [.int .i64 14, .int .i64 0]) σ) := fun σ => by
    have h := C_Room (σ := σ) (l := [⟨10, 8, [⟨100, 200⟩, ⟨0, 50⟩]⟩]) ⟨by decide, by decide⟩ (ts := [4, 10]) (by decide) (k := 1)
    have e : roomD [⟨10, 8, [⟨100, 200⟩, ⟨0, 50⟩]⟩] [4, 10] 1 = .tup [.int .i64 14, .int .i64 0] := by kernel_rfl
    rw [e] at h
    exact h
  have h4 : ∀ σ : Stack, σ ≠ [] → lim T (.call false i_lease_Drill [.agg [.int .i64 10, .int .i64 6, .int .i64 900, .int .i64 2, .lst 3 [.int .i64 12, .int .i64 5, .int .i64 14, .int .i64 4, .int .i64 15, .int .i64 9]]] σ) = some (.val (.tup [.lst 3 [.int .i64 1, .int .i64 1, .int .i64 0], .int .i64 9, .lst 3 ((lads exP exP.l).flatMap ladE), .int .i64 0]) σ) := fun σ hσ => by
    have h := C_Drill (σ := σ) (p := exP) (by decide) hσ
    have e1 : pgOk exP = true := by kernel_rfl
    have e2 : leastF exP exP.l exP.start = 9 := by kernel_rfl
    have e3 : drillL exP exP.l exP.start = [1, 1, 0] := by kernel_rfl
    unfold drillD at h
    rw [e1, e2, e3] at h
    exact h
  have i1 := fun σ => C_ints (σ := σ) (a := [6, 6, 1]) (b := [6, 6, 1]) (by decide)
  have i2 := fun σ => C_ints (σ := σ) (a := [4, 3, 3]) (b := [4, 3, 3]) (by decide)
  have i3 := fun σ => C_ints (σ := σ) (a := [1, 1, 0]) (b := [1, 1, 0]) (by decide)
  simp at i1 i2 i3
  generalize (lads exP exP.l).flatMap ladE = X at *
  simp [-List.length_flatMap, -List.map_take, e_law11_wakes_r0, e_law11_wakes_r1, e_law11_wakes_r2, e_law11_wakes_r3, e_law11_wakes_r4, e_law11_wakes_r5, C_tracts, C_pool, C_drilled, h1, h2, h3, h4, i1, i2, i3]
end Go.Proofs.YtcccafphhmcifaaGreat
