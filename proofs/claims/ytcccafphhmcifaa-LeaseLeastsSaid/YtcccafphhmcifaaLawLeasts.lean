/-
  The law LeaseLeasts answers true.
-/
import Derived.Test.YtcccafphhmcifaaE6
import Derived.Test.YtcccafphhmcifaaW
set_option linter.unusedVariables false
set_option linter.unusedSimpArgs false
namespace Go.Proofs.Ytcccafphhmcifaa
open Go Go.Abs Go.Lease
variable {σ : Stack}

theorem law_Leasts {p : Pg} {y c : Int} : lim T (.call false i_law11_LeaseLeasts [.agg [.int .i64 p.start, .int .i64 p.gain, .int .i64 p.keep, .int .i64 p.most, .lst p.l.length (p.l.flatMap Yr.enc)], .int .i64 y, .int .i64 c] [[]]) = some (.val (.bool true) [[]]) := by
  refine call_of T_law11_LeaseLeasts e_law11_LeaseLeasts rfl ?_
  by_cases hl : p.l.length ≤ 12
  rotate_left
  · have h1 : (12 : Int) < p.l.length := by omega
    simp [-List.length_flatMap, -List.map_take, e_law11_LeaseLeasts_r0, e_law11_LeaseLeasts_r1, e_law11_LeaseLeasts_r2, e_law11_LeaseLeasts_r3, e_law11_LeaseLeasts_r4, e_law11_LeaseLeasts_r5, e_law11_LeaseLeasts_r6, e_law11_LeaseLeasts_r7, e_law11_LeaseLeasts_r8, e_law11_LeaseLeasts_r9, e_law11_LeaseLeasts_r10, e_law11_LeaseLeasts_r11, e_law11_LeaseLeasts_r12, e_law11_LeaseLeasts_r13, e_law11_LeaseLeasts_r14, h1, C_wakes]
  have h1 : ¬ (12 : Int) < p.l.length := by omega
  have hR := fun σ => C_RPg (σ := σ) (p := p)
  have hP := fun σ (hσ : σ ≠ []) => C_Pg (σ := σ) (p := p) (by omega) hσ
  have hL := fun σ (hσ : σ ≠ []) => C_Least (σ := σ) (p := p) (y := y) (c := c) (by omega) hσ
  unfold leastD at hL
  cases c1 : pgOk p
  · simp only [c1, Bool.false_eq_true, if_false] at hL
    simp [-List.length_flatMap, -List.map_take, e_law11_LeaseLeasts_r0, e_law11_LeaseLeasts_r1, e_law11_LeaseLeasts_r2, e_law11_LeaseLeasts_r3, e_law11_LeaseLeasts_r4, e_law11_LeaseLeasts_r5, e_law11_LeaseLeasts_r6, e_law11_LeaseLeasts_r7, e_law11_LeaseLeasts_r8, e_law11_LeaseLeasts_r9, e_law11_LeaseLeasts_r10, e_law11_LeaseLeasts_r11, e_law11_LeaseLeasts_r12, e_law11_LeaseLeasts_r13, e_law11_LeaseLeasts_r14, h1, hR, hP, hL, c1, C_wakes]
  by_cases h6 : p.l.length ≤ 6
  rotate_left
  · have h6' : (6 : Int) < p.l.length := by omega
    simp [-List.length_flatMap, -List.map_take, e_law11_LeaseLeasts_r0, e_law11_LeaseLeasts_r1, e_law11_LeaseLeasts_r2, e_law11_LeaseLeasts_r3, e_law11_LeaseLeasts_r4, e_law11_LeaseLeasts_r5, e_law11_LeaseLeasts_r6, e_law11_LeaseLeasts_r7, e_law11_LeaseLeasts_r8, e_law11_LeaseLeasts_r9, e_law11_LeaseLeasts_r10, e_law11_LeaseLeasts_r11, e_law11_LeaseLeasts_r12, e_law11_LeaseLeasts_r13, e_law11_LeaseLeasts_r14, h1, hR, c1, h6', C_wakes]
  have h6' : ¬ (6 : Int) < p.l.length := by omega
  simp only [c1, if_true] at hL
  cases c2 : inn y 0 p.l.length
  · simp only [c2, Bool.false_and, Bool.false_eq_true, if_false] at hL
    simp [-List.length_flatMap, -List.map_take, e_law11_LeaseLeasts_r0, e_law11_LeaseLeasts_r1, e_law11_LeaseLeasts_r2, e_law11_LeaseLeasts_r3, e_law11_LeaseLeasts_r4, e_law11_LeaseLeasts_r5, e_law11_LeaseLeasts_r6, e_law11_LeaseLeasts_r7, e_law11_LeaseLeasts_r8, e_law11_LeaseLeasts_r9, e_law11_LeaseLeasts_r10, e_law11_LeaseLeasts_r11, e_law11_LeaseLeasts_r12, e_law11_LeaseLeasts_r13, e_law11_LeaseLeasts_r14, h1, h6', hR, hP, hL, c1, D_In, c2, C_wakes]
  cases c3 : inn c 0 held
  · have c3' : inn c 0 100000000 = false := c3
    simp only [c2, c3, Bool.and_false, Bool.false_eq_true, if_false] at hL
    simp [-List.length_flatMap, -List.map_take, e_law11_LeaseLeasts_r0, e_law11_LeaseLeasts_r1, e_law11_LeaseLeasts_r2, e_law11_LeaseLeasts_r3, e_law11_LeaseLeasts_r4, e_law11_LeaseLeasts_r5, e_law11_LeaseLeasts_r6, e_law11_LeaseLeasts_r7, e_law11_LeaseLeasts_r8, e_law11_LeaseLeasts_r9, e_law11_LeaseLeasts_r10, e_law11_LeaseLeasts_r11, e_law11_LeaseLeasts_r12, e_law11_LeaseLeasts_r13, e_law11_LeaseLeasts_r14, h1, h6', hR, hP, hL, c1, D_In, c2, c3', C_wakes]
  have c3' : inn c 0 100000000 = true := c3
  simp only [c2, c3, Bool.and_self, if_true] at hL
  have hy := inn_iff.1 c2
  have hc := inn_iff.1 c3
  obtain ⟨j, rfl⟩ : ∃ j : Nat, y = j := ⟨y.toNat, by omega⟩
  have hRL := fun σ => C_LeastR c1 (p.l.length - j) j c σ (by omega) hc.1 (by simp only [held] at hc; omega)
  rw [Int.toNat_natCast] at hL
  by_cases h4 : (j : Int) = p.l.length
  · have h5 : j = p.l.length := by omega
    subst h5
    have h7 : leastF p [] c = 0 := rfl
    simp only [if_true] at hL
    rw [List.drop_length, h7] at hRL
    simp [-List.length_flatMap, -List.map_take, e_law11_LeaseLeasts_r0, e_law11_LeaseLeasts_r1, e_law11_LeaseLeasts_r2, e_law11_LeaseLeasts_r3, e_law11_LeaseLeasts_r4, e_law11_LeaseLeasts_r5, e_law11_LeaseLeasts_r6, e_law11_LeaseLeasts_r7, e_law11_LeaseLeasts_r8, e_law11_LeaseLeasts_r9, e_law11_LeaseLeasts_r10, e_law11_LeaseLeasts_r11, e_law11_LeaseLeasts_r12, e_law11_LeaseLeasts_r13, e_law11_LeaseLeasts_r14, h1, h6', hR, hP, hL, hRL, c1, D_In, c2, c3', C_wakes]
  · simp only [h4, if_false] at hL
    by_cases h7 : leastF p (p.l.drop j) c = 1000000000000
    · simp only [never, h7, if_true] at hL
      rw [h7] at hRL
      simp [-List.length_flatMap, -List.map_take, e_law11_LeaseLeasts_r0, e_law11_LeaseLeasts_r1, e_law11_LeaseLeasts_r2, e_law11_LeaseLeasts_r3, e_law11_LeaseLeasts_r4, e_law11_LeaseLeasts_r5, e_law11_LeaseLeasts_r6, e_law11_LeaseLeasts_r7, e_law11_LeaseLeasts_r8, e_law11_LeaseLeasts_r9, e_law11_LeaseLeasts_r10, e_law11_LeaseLeasts_r11, e_law11_LeaseLeasts_r12, e_law11_LeaseLeasts_r13, e_law11_LeaseLeasts_r14, h1, h6', hR, hP, hL, hRL, c1, D_In, c2, c3', C_wakes]
    · simp only [never, h7, if_false] at hL
      simp [-List.length_flatMap, -List.map_take, e_law11_LeaseLeasts_r0, e_law11_LeaseLeasts_r1, e_law11_LeaseLeasts_r2, e_law11_LeaseLeasts_r3, e_law11_LeaseLeasts_r4, e_law11_LeaseLeasts_r5, e_law11_LeaseLeasts_r6, e_law11_LeaseLeasts_r7, e_law11_LeaseLeasts_r8, e_law11_LeaseLeasts_r9, e_law11_LeaseLeasts_r10, e_law11_LeaseLeasts_r11, e_law11_LeaseLeasts_r12, e_law11_LeaseLeasts_r13, e_law11_LeaseLeasts_r14, h1, h6', hR, hP, hL, hRL, c1, D_In, c2, c3', h7, C_wakes]
theorem go_LeaseLeasts (x0 x1 x2 : D) (t0 : (Ty.struct [.int .i64, .int .i64, .int .i64, .int .i64, .slice 2 (.struct [.int .i64, .int .i64])]).hasV x0) (t1 : (Ty.int .i64).hasV x1) (t2 : (Ty.int .i64).hasV x2) :
    ∃ σ', lim T (.call false i_law11_LeaseLeasts [x0, x1, x2] [[]]) = some (.val (.bool true) σ') := by
  obtain ⟨p, rfl⟩ := pg_of t0
  obtain ⟨b, rfl, hb⟩ := i64_of t1
  obtain ⟨z, rfl, hz⟩ := i64_of t2
  exact ⟨_, law_Leasts⟩
end Go.Proofs.Ytcccafphhmcifaa
