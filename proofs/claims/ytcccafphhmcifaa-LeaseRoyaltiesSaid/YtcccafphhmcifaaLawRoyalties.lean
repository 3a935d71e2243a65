/-
  The law LeaseRoyalties answers true.
-/
import Derived.Test.YtcccafphhmcifaaL1
import Derived.Test.YtcccafphhmcifaaW
import Derived.Test.YtcccafphhmcifaaTremTyK
set_option linter.unusedVariables false
set_option linter.unusedSimpArgs false
namespace Go.Proofs.Ytcccafphhmcifaa
open Go Go.Abs Go.Lease
variable {σ : Stack}

theorem law_Royalties {r : Rl} {kg price : Int} : lim T (.call false i_law11_LeaseRoyalties [.agg [.int .i64 r.least, .lst r.l.length (r.l.flatMap Gd.enc)], .int .i64 kg, .int .i64 price] [[]]) = some (.val (.bool true) [[]]) := by
  refine call_of T_law11_LeaseRoyalties e_law11_LeaseRoyalties rfl ?_
  by_cases hl : r.l.length ≤ 10
  rotate_left
  · have h1 : (10 : Int) < r.l.length := by omega
    simp [-List.length_flatMap, -List.map_take, e_law11_LeaseRoyalties_r0, e_law11_LeaseRoyalties_r1, e_law11_LeaseRoyalties_r2, e_law11_LeaseRoyalties_r3, e_law11_LeaseRoyalties_r4, e_law11_LeaseRoyalties_r5, e_law11_LeaseRoyalties_r6, e_law11_LeaseRoyalties_r7, e_law11_LeaseRoyalties_r8, h1, C_wakes]
  have h1 : ¬ (10 : Int) < r.l.length := by omega
  have hR := fun σ (hσ : σ ≠ []) => @C_Rule σ r (by omega) hσ
  have hY := fun σ => @C_Royalty σ r (by omega) kg price
  have hV := fun σ => @C_RightRule σ r (by omega)
  unfold royD at hY
  cases c1 : rlOk r
  · simp only [c1, Bool.false_eq_true, if_false] at hY
    simp [-List.length_flatMap, -List.map_take, e_law11_LeaseRoyalties_r0, e_law11_LeaseRoyalties_r1, e_law11_LeaseRoyalties_r2, e_law11_LeaseRoyalties_r3, e_law11_LeaseRoyalties_r4, e_law11_LeaseRoyalties_r5, e_law11_LeaseRoyalties_r6, e_law11_LeaseRoyalties_r7, e_law11_LeaseRoyalties_r8, h1, hR, hY, hV, c1, C_wakes]
  simp only [c1, if_true] at hY
  cases c2 : inn kg 0 1000000000000
  · simp only [c2, Bool.false_and, Bool.false_eq_true, if_false] at hY
    simp [-List.length_flatMap, -List.map_take, e_law11_LeaseRoyalties_r0, e_law11_LeaseRoyalties_r1, e_law11_LeaseRoyalties_r2, e_law11_LeaseRoyalties_r3, e_law11_LeaseRoyalties_r4, e_law11_LeaseRoyalties_r5, e_law11_LeaseRoyalties_r6, e_law11_LeaseRoyalties_r7, e_law11_LeaseRoyalties_r8, h1, hR, hY, hV, c1, c2, C_In, C_wakes]
  cases c3 : inn price 0 1000
  · simp only [c2, c3, Bool.and_false, Bool.false_eq_true, if_false] at hY
    simp [-List.length_flatMap, -List.map_take, e_law11_LeaseRoyalties_r0, e_law11_LeaseRoyalties_r1, e_law11_LeaseRoyalties_r2, e_law11_LeaseRoyalties_r3, e_law11_LeaseRoyalties_r4, e_law11_LeaseRoyalties_r5, e_law11_LeaseRoyalties_r6, e_law11_LeaseRoyalties_r7, e_law11_LeaseRoyalties_r8, h1, hR, hY, hV, c1, c2, c3, C_In, C_wakes]
  · simp only [c2, c3, Bool.and_self, if_true] at hY
    have hZ := fun σ => @C_RoyaltyR σ r c1 kg price (inn_iff.1 c2) (inn_iff.1 c3)
    simp [-List.length_flatMap, -List.map_take, e_law11_LeaseRoyalties_r0, e_law11_LeaseRoyalties_r1, e_law11_LeaseRoyalties_r2, e_law11_LeaseRoyalties_r3, e_law11_LeaseRoyalties_r4, e_law11_LeaseRoyalties_r5, e_law11_LeaseRoyalties_r6, e_law11_LeaseRoyalties_r7, e_law11_LeaseRoyalties_r8, h1, hR, hY, hV, hZ, c1, c2, c3, C_In, C_wakes]
theorem gd_of {ds : List D} (h : (Ty.struct [.int .i64, .int .i64]).has ds) : ∃ x : Gd, ds = x.enc ∧ True := by
  obtain ⟨_, _, rfl, ⟨f, rfl, _⟩, _, _, rfl, ⟨t, rfl, _⟩, rfl⟩ := h
  exact ⟨⟨f, t⟩, rfl, trivial⟩
theorem rl_of {d : D} (h : (Ty.struct [.int .i64, .slice 2 (.struct [.int .i64, .int .i64])]).hasV d) : ∃ r : Rl, d = .agg [.int .i64 r.least, .lst r.l.length (r.l.flatMap Gd.enc)] := by
  obtain ⟨ds, rfl, h⟩ := h
  obtain ⟨_, _, rfl, ⟨w, rfl, _⟩, _, _, rfl, hs, rfl⟩ := h
  obtain ⟨d, rfl⟩ := slice_one hs
  obtain ⟨l, rfl, hl, _⟩ := rows_of (fun ds h => gd_of h) hs
  exact ⟨⟨w, l⟩, rfl⟩
theorem go_LeaseRoyalties (x0 x1 x2 : D) (t0 : (Ty.struct [.int .i64, .slice 2 (.struct [.int .i64, .int .i64])]).hasV x0) (t1 : (Ty.int .i64).hasV x1) (t2 : (Ty.int .i64).hasV x2) :
    ∃ σ', lim T (.call false i_law11_LeaseRoyalties [x0, x1, x2] [[]]) = some (.val (.bool true) σ') := by
  obtain ⟨r, rfl⟩ := rl_of t0
  obtain ⟨b, rfl, hb⟩ := i64_of t1
  obtain ⟨z, rfl, hz⟩ := i64_of t2
  exact ⟨_, law_Royalties⟩
end Go.Proofs.Ytcccafphhmcifaa
