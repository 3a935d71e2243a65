/-
  What the distances, travels and spans of layer 9 answer; which networks are valid.
-/
import Derived.Test.YticpenoicajakaaGreatK1
set_option linter.unusedVariables false
set_option linter.unusedSimpArgs false
namespace Go.Proofs.YticpenoicajakaaGreat
open Go Go.Abs Go.Trem
variable {σ : Stack}

theorem half {lo hi : Int} (h0 : 0 ≤ lo) (h1 : lo < hi) (h2 : hi ≤ 80000) :
    IntKind.i64.wrap (IntKind.i64.wrap (lo + hi) + 1) = lo + hi + 1 ∧ IntKind.i64.wrap ((lo + hi + 1).tdiv 2) = (lo + hi + 1) / 2 ∧
      IntKind.i64.wrap ((lo + hi + 1) / 2 * ((lo + hi + 1) / 2)) = (lo + hi + 1) / 2 * ((lo + hi + 1) / 2) ∧ IntKind.i64.wrap ((lo + hi + 1) / 2 - 1) = (lo + hi + 1) / 2 - 1 := by
  have e1 := w64 (n := lo + hi) (by omega)
  have e2 := w64 (n := lo + hi + 1) (by omega)
  have e3 : (lo + hi + 1).tdiv 2 = (lo + hi + 1) / 2 := Int.tdiv_eq_ediv_of_nonneg (by omega)
  have hm : 0 ≤ (lo + hi + 1) / 2 ∧ (lo + hi + 1) / 2 ≤ 80000 := by omega
  rw [e1, e2, e3]
  generalize (lo + hi + 1) / 2 = m at *
  have h3 : m * m ≤ 80000 * 80000 := Int.mul_le_mul hm.2 hm.2 hm.1 (by omega)
  have h4 : 0 ≤ m * m := Int.mul_nonneg hm.1 hm.1
  exact ⟨rfl, w64 (by omega), w64 (by omega), w64 (by omega)⟩

theorem L_far {n : Int} : ∀ (f : Nat) (lo hi : Int), 0 ≤ lo → lo ≤ hi → hi ≤ 80000 → hi - lo < 2 ^ f →
    WL T [8, 9, 10] false f_tremor_Point_far_l9 [(8, .int .i64 n), (9, .int .i64 lo), (10, .int .i64 hi)] σ (fun x e σ' => x = .exit 0 ∧ get e 9 = .int .i64 (bsr f n lo hi) ∧ σ' = σ)
  | 0, lo, hi, h0, h1, h2, h3 => by
    refine WL_step e_tremor_Point_far_l9 ?_
    have : ¬ lo < hi := by omega
    simp [-List.length_flatMap, -List.map_take, e_tremor_Point_far_r0, e_tremor_Point_far_r1, e_tremor_Point_far_r2, e_tremor_Point_far_r3, e_tremor_Point_far_r4, e_tremor_Point_far_r5, e_tremor_Point_far_r6, e_tremor_Point_far_r7, e_tremor_Point_far_r8, e_tremor_Point_far_r10, this, bsr]
  | f + 1, lo, hi, h0, h1, h2, h3 => by
    refine WL_step e_tremor_Point_far_l9 ?_
    by_cases h : lo < hi
    · obtain ⟨e1, e2, e3, e4⟩ := half h0 h h2
      have hp : (2 : Int) ^ (f + 1) = 2 * 2 ^ f := by rw [Int.pow_succ]; omega
      by_cases hc : (lo + hi + 1) / 2 * ((lo + hi + 1) / 2) ≤ n
      · have ih := L_far (n := n) f ((lo + hi + 1) / 2) hi (by omega) (by omega) (by omega) (by omega)
        have hc' : ¬ n < (lo + hi + 1) / 2 * ((lo + hi + 1) / 2) := by omega
        simp [-List.length_flatMap, -List.map_take, e_tremor_Point_far_r0, e_tremor_Point_far_r1, e_tremor_Point_far_r2, e_tremor_Point_far_r3, e_tremor_Point_far_r4, e_tremor_Point_far_r5, e_tremor_Point_far_r6, e_tremor_Point_far_r7, e_tremor_Point_far_r8, e_tremor_Point_far_r10, h, e1, e2, e3, e4, hc, hc']
        exact ih.mono fun x e σ' hh => by simpa [bsr, h, hc] using hh
      · have ih := L_far (n := n) f lo ((lo + hi + 1) / 2 - 1) (by omega) (by omega) (by omega) (by omega)
        have hc' : n < (lo + hi + 1) / 2 * ((lo + hi + 1) / 2) := by omega
        simp [-List.length_flatMap, -List.map_take, e_tremor_Point_far_r0, e_tremor_Point_far_r1, e_tremor_Point_far_r2, e_tremor_Point_far_r3, e_tremor_Point_far_r4, e_tremor_Point_far_r5, e_tremor_Point_far_r6, e_tremor_Point_far_r7, e_tremor_Point_far_r8, e_tremor_Point_far_r10, h, e1, e2, e3, e4, hc, hc']
        exact ih.mono fun x e σ' hh => by simpa [bsr, h, hc] using hh
    · simp [-List.length_flatMap, -List.map_take, e_tremor_Point_far_r0, e_tremor_Point_far_r1, e_tremor_Point_far_r2, e_tremor_Point_far_r3, e_tremor_Point_far_r4, e_tremor_Point_far_r5, e_tremor_Point_far_r6, e_tremor_Point_far_r7, e_tremor_Point_far_r8, e_tremor_Point_far_r10, h, bsr]

theorem sq_wraps {p q : Pt} (hp : p.ok = true) (hq : q.ok = true) :
    IntKind.i64.wrap (p.x - q.x) = p.x - q.x ∧ IntKind.i64.wrap (p.y - q.y) = p.y - q.y ∧ IntKind.i64.wrap (p.z - q.z) = p.z - q.z ∧
    IntKind.i64.wrap ((p.x - q.x) * (p.x - q.x)) = (p.x - q.x) * (p.x - q.x) ∧ IntKind.i64.wrap ((p.y - q.y) * (p.y - q.y)) = (p.y - q.y) * (p.y - q.y) ∧
    IntKind.i64.wrap ((p.z - q.z) * (p.z - q.z)) = (p.z - q.z) * (p.z - q.z) ∧
    IntKind.i64.wrap ((p.x - q.x) * (p.x - q.x) + (p.y - q.y) * (p.y - q.y)) = (p.x - q.x) * (p.x - q.x) + (p.y - q.y) * (p.y - q.y) ∧
    IntKind.i64.wrap ((p.x - q.x) * (p.x - q.x) + (p.y - q.y) * (p.y - q.y) + (p.z - q.z) * (p.z - q.z)) = sq p q := by
  have h := sq_bound hp hq
  have hs : ∀ a : Int, 0 ≤ a * a := fun a => by
    rcases Int.le_total 0 a with h | h
    · exact Int.mul_nonneg h h
    · exact Int.mul_nonneg_of_nonpos_of_nonpos h h
  have h1 := hs (p.x - q.x)
  have h2 := hs (p.y - q.y)
  have h3 := hs (p.z - q.z)
  unfold sq at h ⊢
  rw [Pt.ok_iff] at hp hq
  exact ⟨w64 (by omega), w64 (by omega), w64 (by omega), w64 (by omega), w64 (by omega), w64 (by omega), w64 (by omega), w64 (by omega)⟩

theorem C_far {x y z a b c : Int} (hp : (Pt.mk x y z).ok = true) (hq : (Pt.mk a b c).ok = true) :
    lim T (.call false i_tremor_Point_far [.agg [.int .i64 x, .int .i64 y, .int .i64 z], .agg [.int .i64 a, .int .i64 b, .int .i64 c]] σ) = some (.val (.int .i64 (dist ⟨x, y, z⟩ ⟨a, b, c⟩)) σ) := by
  refine call_of T_tremor_Point_far e_tremor_Point_far rfl ?_
  obtain ⟨e1, e2, e3, e4, e5, e6, e7, e8⟩ := sq_wraps hp hq
  have h := L_far (σ := [] :: σ) (n := sq ⟨x, y, z⟩ ⟨a, b, c⟩) 17 0 80000 (by omega) (by omega) (by omega) (by decide)
  rw [dist_eq hp hq] at h
  simp [-List.length_flatMap, -List.map_take, e_tremor_Point_far_r0, e_tremor_Point_far_r1, e_tremor_Point_far_r2, e_tremor_Point_far_r3, e_tremor_Point_far_r4, e_tremor_Point_far_r5, e_tremor_Point_far_r6, e_tremor_Point_far_r7, e_tremor_Point_far_r8, e_tremor_Point_far_r10, e1, e2, e3, e4, e5, e6, e7, e8]
  refine h.mono ?_
  rintro x e σ' ⟨rfl, h1, rfl⟩
  simp [-List.length_flatMap, -List.map_take, h1, e_tremor_Point_far_r10]

end Go.Proofs.YticpenoicajakaaGreat
