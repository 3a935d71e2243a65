/-
  The law LeaseMore answers true.
-/
import Derived.Test.YtcccafphhmcifaaLawRoyalties
set_option linter.unusedVariables false
set_option linter.unusedSimpArgs false
namespace Go.Proofs.Ytcccafphhmcifaa
open Go Go.Abs Go.Lease
variable {σ : Stack}

theorem roy_more {r : Rl} (h : rlOk r = true) {a b p q : Int} (ha : 0 ≤ a) (hab : a ≤ b) (hp : 0 ≤ p) (hpq : p ≤ q) : roy r a p ≤ roy r b q := by
  simp only [rlOk, Bool.and_eq_true] at h
  have h1 := royF_mono hab r.l 0 ha h.1
  have h2 := royF_bd r.l 0 ha h.1
  have h3 : royF a r.l 0 * p ≤ royF b r.l 0 * q := Int.le_trans (Int.mul_le_mul_of_nonneg_right h1 hp) (Int.mul_le_mul_of_nonneg_left hpq (by omega))
  have h4 := Int.ediv_le_ediv (by decide : (0 : Int) < 1000000) h3
  unfold roy
  omega
theorem law_More {r : Rl} {a b p m : Int} (ha : 0 ≤ a ∧ a ≤ 4294967295) (hb : 0 ≤ b ∧ b ≤ 4294967295) (hp : 0 ≤ p ∧ p ≤ 65535) (hm : 0 ≤ m ∧ m ≤ 65535) :
    lim T (.call false i_law11_LeaseMore [.agg [.int .i64 r.least, .lst r.l.length (r.l.flatMap Gd.enc)], .int .u32 a, .int .u32 b, .int .u16 p, .int .u16 m] [[]]) = some (.val (.bool true) [[]]) := by
  refine call_of T_law11_LeaseMore e_law11_LeaseMore rfl ?_
  by_cases hl : r.l.length ≤ 10
  rotate_left
  · have h1 : (10 : Int) < r.l.length := by omega
    simp [-List.length_flatMap, -List.map_take, e_law11_LeaseMore_r0, e_law11_LeaseMore_r1, e_law11_LeaseMore_r2, e_law11_LeaseMore_r3, e_law11_LeaseMore_r4, e_law11_LeaseMore_r5, e_law11_LeaseMore_r6, e_law11_LeaseMore_r7, e_law11_LeaseMore_r8, h1, C_wakes]
  have h1 : ¬ (10 : Int) < r.l.length := by omega
  have hV := fun σ => @C_RightRule σ r (by omega)
  cases c1 : rlOk r
  · simp [-List.length_flatMap, -List.map_take, e_law11_LeaseMore_r0, e_law11_LeaseMore_r1, e_law11_LeaseMore_r2, e_law11_LeaseMore_r3, e_law11_LeaseMore_r4, e_law11_LeaseMore_r5, e_law11_LeaseMore_r6, e_law11_LeaseMore_r7, e_law11_LeaseMore_r8, h1, hV, c1, C_wakes]
  have hR := fun σ (hσ : σ ≠ []) => @C_Rule σ r (by omega) hσ
  have w1 := w64 (n := p) (by omega)
  have w2 := w64 (n := m) (by omega)
  have w3 := w64 (n := a) (by omega)
  have w4 := w64 (n := b) (by omega)
  have w5 := w64 (n := a + b) (by omega)
  have r1 : p.tmod 1001 = p % 1001 := Int.tmod_eq_emod_of_nonneg hp.1
  generalize hP : p % 1001 = P at *
  have hP1 : 0 ≤ P ∧ P ≤ 1000 := by omega
  have w6 := w64 (n := 1001 - P) (by omega)
  have r2 : m.tmod (1001 - P) = m % (1001 - P) := Int.tmod_eq_emod_of_nonneg hm.1
  have hM1 : 0 ≤ m % (1001 - P) := Int.emod_nonneg _ (by omega)
  have hM2 : m % (1001 - P) < 1001 - P := Int.emod_lt_of_pos _ (by omega)
  have hne : ¬ (1001 - P = 0) := by omega
  generalize hM : m % (1001 - P) = M at *
  have w7 := w64 (n := P + M) (by omega)
  have hY : ∀ (kg pr : Int), 0 ≤ kg → kg ≤ 1000000000000 → 0 ≤ pr → pr ≤ 1000 → ∀ σ, lim T (.call false i_lease_Royalty [.agg [.int .i64 r.least, .lst r.l.length (r.l.flatMap Gd.enc)], .int .i64 kg, .int .i64 pr] σ) = some (.val (.tup [.int .i64 (roy r kg pr), .int .i64 0]) σ) := fun kg pr h1 h2 h3 h4 σ => by
    have := @C_Royalty σ r (by omega) kg pr
    unfold royD at this
    rw [c1, inn_iff.2 ⟨h1, h2⟩, inn_iff.2 ⟨h3, h4⟩] at this
    exact this
  have y1 := hY a P (by omega) (by omega) (by omega) (by omega)
  have y2 := hY (a + b) P (by omega) (by omega) (by omega) (by omega)
  have y3 := hY a (P + M) (by omega) (by omega) (by omega) (by omega)
  have m1 : r.least ≤ roy r a P := by unfold roy; omega
  have m2 : roy r a P ≤ roy r (a + b) P := roy_more c1 ha.1 (by omega) hP1.1 (by omega)
  have m3 : roy r a P ≤ roy r a (P + M) := roy_more c1 ha.1 (by omega) hP1.1 (by omega)
  simp [-List.length_flatMap, -List.map_take, e_law11_LeaseMore_r0, e_law11_LeaseMore_r1, e_law11_LeaseMore_r2, e_law11_LeaseMore_r3, e_law11_LeaseMore_r4, e_law11_LeaseMore_r5, e_law11_LeaseMore_r6, e_law11_LeaseMore_r7, e_law11_LeaseMore_r8, h1, hV, c1, hR, w1, w2, w3, w4, w5, w6, w7, r1, r2, hne, y1, y2, y3, m1, m2, m3, C_wakes]
theorem go_LeaseMore (x0 x1 x2 x3 x4 : D) (t0 : (Ty.struct [.int .i64, .slice 2 (.struct [.int .i64, .int .i64])]).hasV x0) (t1 : (Ty.int .u32).hasV x1) (t2 : (Ty.int .u32).hasV x2) (t3 : (Ty.int .u16).hasV x3) (t4 : (Ty.int .u16).hasV x4) :
    ∃ σ', lim T (.call false i_law11_LeaseMore [x0, x1, x2, x3, x4] [[]]) = some (.val (.bool true) σ') := by
  obtain ⟨r, rfl⟩ := rl_of t0
  obtain ⟨a, rfl, ha⟩ := u32_of t1
  obtain ⟨b, rfl, hb⟩ := u32_of t2
  obtain ⟨p, rfl, hp⟩ := u16_of t3
  obtain ⟨m, rfl, hm⟩ := u16_of t4
  exact ⟨_, law_More ha hb hp hm⟩
end Go.Proofs.Ytcccafphhmcifaa
