/-
  The law LeaseWider answers true.
-/
import Derived.Test.YtcccafphhmcifaaE6
import Derived.Test.YtcccafphhmcifaaW
set_option linter.unusedVariables false
set_option linter.unusedSimpArgs false
namespace Go.Proofs.Ytcccafphhmcifaa
open Go Go.Abs Go.Lease
variable {σ : Stack}

/-- What Least and Drill say at last. -/
def leastT (n : Int) : D := if n = never then .tup [.int .i64 0, .int .i64 7] else .tup [.int .i64 n, .int .i64 0]
theorem leastD_ok {p : Pg} (h : pgOk p = true) {j : Nat} (hj : j ≤ p.l.length) {c : Int} (hc : 0 ≤ c ∧ c ≤ held) : leastD p j c = leastT (leastF p (p.l.drop j) c) := by
  unfold leastD
  have h1 : inn (j : Int) 0 p.l.length = true := inn_iff.2 (by omega)
  have h2 : inn c 0 held = true := inn_iff.2 hc
  rw [h, h1, h2, Int.toNat_natCast]
  simp only [if_true, Bool.and_self]
  by_cases h3 : (j : Int) = p.l.length
  · rw [if_pos h3, List.drop_eq_nil_of_le (by omega)]
    rfl
  · rw [if_neg h3]
    unfold leastT
    rfl
theorem law_Wider {p : Pg} {y c m : Int} (hy : 0 ≤ y ∧ y ≤ 255) (hc : 0 ≤ c ∧ c ≤ 4294967295) (hm : 0 ≤ m ∧ m ≤ 4294967295) : lim T (.call false i_law11_LeaseWider [.agg [.int .i64 p.start, .int .i64 p.gain, .int .i64 p.keep, .int .i64 p.most, .lst p.l.length (p.l.flatMap Yr.enc)], .int .u8 y, .int .u32 c, .int .u32 m] [[]]) = some (.val (.bool true) [[]]) := by
  refine call_of T_law11_LeaseWider e_law11_LeaseWider rfl ?_
  have hR := fun σ => C_RPg (σ := σ) (p := p)
  cases c1 : pgOk p
  · simp [-List.length_flatMap, -List.map_take, e_law11_LeaseWider_r0, e_law11_LeaseWider_r1, e_law11_LeaseWider_r2, e_law11_LeaseWider_r3, e_law11_LeaseWider_r4, e_law11_LeaseWider_r5, e_law11_LeaseWider_r6, e_law11_LeaseWider_r7, e_law11_LeaseWider_r8, e_law11_LeaseWider_r9, e_law11_LeaseWider_r10, e_law11_LeaseWider_r11, e_law11_LeaseWider_r12, e_law11_LeaseWider_r13, e_law11_LeaseWider_r14, e_law11_LeaseWider_r15, e_law11_LeaseWider_r16, e_law11_LeaseWider_r17, e_law11_LeaseWider_r18, hR, c1, C_wakes]
  have hp1 := pgOk_iff.1 c1
  have hn : p.l.length ≤ 8 := by omega
  have hP := fun σ (hσ : σ ≠ []) => C_Pg (σ := σ) (p := p) (by omega) hσ
  have hD := fun σ (hσ : σ ≠ []) => C_Drill (σ := σ) (p := p) (by omega) hσ
  obtain ⟨j, hj⟩ : ∃ j : Nat, y % ((p.l.length : Int) + 1) = j := ⟨(y % ((p.l.length : Int) + 1)).toNat, by have := Int.emod_nonneg y (show (p.l.length : Int) + 1 ≠ 0 by omega); omega⟩
  have hj1 : j ≤ p.l.length := by have := Int.emod_lt_of_pos y (show 0 < (p.l.length : Int) + 1 by omega); omega
  have r1 : y.tmod ((p.l.length : Int) + 1) = j := by rw [Int.tmod_eq_emod_of_nonneg hy.1, hj]
  obtain ⟨d, hd⟩ : ∃ d, c % 50000000 = d := ⟨_, rfl⟩
  obtain ⟨b, hb⟩ : ∃ b, m % 50000000 = b := ⟨_, rfl⟩
  have r2 : c.tmod 50000000 = d := by rw [Int.tmod_eq_emod_of_nonneg hc.1, hd]
  have r3 : m.tmod 50000000 = b := by rw [Int.tmod_eq_emod_of_nonneg hm.1, hb]
  have w0 := w64 (n := y) (by omega)
  have w1 := w64 (n := (p.l.length : Int) + 1) (by omega)
  have w2 := w64 (n := c) (by omega)
  have w3 := w64 (n := m) (by omega)
  have w4 := w64 (n := d + b) (by omega)
  have w5 := w64 (n := p.most + 1) (by omega)
  have n1 : ¬ ((p.l.length : Int) + 1 = 0) := by omega
  have hL := fun (j : Nat) (hj : j ≤ p.l.length) (c : Int) (hc : 0 ≤ c ∧ c ≤ held) σ (hσ : σ ≠ []) => by
    have := C_Least (σ := σ) (p := p) (y := (j : Int)) (c := c) (by omega) hσ
    rw [leastD_ok c1 hj hc] at this
    exact this
  have hL1 := hL j hj1 d (by simp only [held]; omega)
  have hL2 := hL j hj1 (d + b) (by simp only [held]; omega)
  have hL3 := hL 0 (Nat.zero_le _) p.start (by simp only [held]; omega)
  rw [List.drop_zero] at hL3
  have hmono := leastF_mono hp1.2.2.2.1.1 (show 0 ≤ p.gain by omega) hp1.2.2.1.1 (p.l.drop j) d (d + b) (by omega) (by omega)
  have l1 := leastF_le (p := p) (p.l.drop j) d
  have l3 := leastF_le (p := p) p.l p.start
  unfold leastT at hL1 hL2 hL3
  unfold drillD at hD
  simp only [c1, if_true] at hD
  generalize leastF p (p.l.drop j) d = a1 at *
  generalize leastF p (p.l.drop j) (d + b) = a2 at *
  have hpm : p.most ≠ 3 → pgOk { p with most := p.most + 1 } = true := fun h3 => pgOk_iff.2 ⟨hp1.1, hp1.2.1, hp1.2.2.1, ⟨by show 0 ≤ p.most + 1; omega, by show p.most + 1 ≤ 3; omega⟩, hp1.2.2.2.2.1, hp1.2.2.2.2.2⟩
  have hD2 := fun σ (hσ : σ ≠ []) => C_Drill (σ := σ) (p := { p with most := p.most + 1 }) (show p.l.length ≤ 1000000 by omega) hσ
  have hmore := leastF_more hp1.2.2.2.1.1 p.l p.start
  unfold drillD at hD2
  simp only [never] at *
  have k2 : a1 ≠ 1000000000000 → a2 ≠ 1000000000000 := by omega
  have j0 : ((0 : Nat) : Int) = 0 := rfl
  rw [j0] at hL3
  by_cases e1 : a1 = 1000000000000
  · simp only [e1, if_true] at hL1
    by_cases e2 : a2 = 1000000000000
    · simp only [e2, if_true] at hL2
      by_cases e4 : leastF p p.l p.start = 1000000000000
      · simp only [e4, if_true] at hL3 hD
        by_cases e3 : p.most = 3
        · have e3' : (p.most == 3) = true := by simpa using e3
          simp [-List.length_flatMap, -List.map_take, e_law11_LeaseWider_r0, e_law11_LeaseWider_r1, e_law11_LeaseWider_r2, e_law11_LeaseWider_r3, e_law11_LeaseWider_r4, e_law11_LeaseWider_r5, e_law11_LeaseWider_r6, e_law11_LeaseWider_r7, e_law11_LeaseWider_r8, e_law11_LeaseWider_r9, e_law11_LeaseWider_r10, e_law11_LeaseWider_r11, e_law11_LeaseWider_r12, e_law11_LeaseWider_r13, e_law11_LeaseWider_r14, e_law11_LeaseWider_r15, e_law11_LeaseWider_r16, e_law11_LeaseWider_r17, e_law11_LeaseWider_r18, hL1, hL2, hL3, hD, e3', hR, hP, c1, w0, w1, w2, w3, w4, n1, r1, r2, r3, C_wakes]
        · by_cases e5 : leastF { p with most := p.most + 1 } p.l p.start = 1000000000000
          · simp only [hpm e3, e5, if_true] at hD2
            simp [-List.length_flatMap, -List.map_take, e_law11_LeaseWider_r0, e_law11_LeaseWider_r1, e_law11_LeaseWider_r2, e_law11_LeaseWider_r3, e_law11_LeaseWider_r4, e_law11_LeaseWider_r5, e_law11_LeaseWider_r6, e_law11_LeaseWider_r7, e_law11_LeaseWider_r8, e_law11_LeaseWider_r9, e_law11_LeaseWider_r10, e_law11_LeaseWider_r11, e_law11_LeaseWider_r12, e_law11_LeaseWider_r13, e_law11_LeaseWider_r14, e_law11_LeaseWider_r15, e_law11_LeaseWider_r16, e_law11_LeaseWider_r17, e_law11_LeaseWider_r18, hL1, hL2, hL3, hD, hD2, e3, w5, hR, hP, c1, w0, w1, w2, w3, w4, n1, r1, r2, r3, C_wakes]
          · simp only [hpm e3, e5, if_true, if_false] at hD2
            simp [-List.length_flatMap, -List.map_take, e_law11_LeaseWider_r0, e_law11_LeaseWider_r1, e_law11_LeaseWider_r2, e_law11_LeaseWider_r3, e_law11_LeaseWider_r4, e_law11_LeaseWider_r5, e_law11_LeaseWider_r6, e_law11_LeaseWider_r7, e_law11_LeaseWider_r8, e_law11_LeaseWider_r9, e_law11_LeaseWider_r10, e_law11_LeaseWider_r11, e_law11_LeaseWider_r12, e_law11_LeaseWider_r13, e_law11_LeaseWider_r14, e_law11_LeaseWider_r15, e_law11_LeaseWider_r16, e_law11_LeaseWider_r17, e_law11_LeaseWider_r18, hL1, hL2, hL3, hD, hD2, e3, w5, hR, hP, c1, w0, w1, w2, w3, w4, n1, r1, r2, r3, C_wakes]
      · simp only [e4, if_false] at hL3 hD
        by_cases e3 : p.most = 3
        · have e3' : (p.most == 3) = true := by simpa using e3
          simp [-List.length_flatMap, -List.map_take, e_law11_LeaseWider_r0, e_law11_LeaseWider_r1, e_law11_LeaseWider_r2, e_law11_LeaseWider_r3, e_law11_LeaseWider_r4, e_law11_LeaseWider_r5, e_law11_LeaseWider_r6, e_law11_LeaseWider_r7, e_law11_LeaseWider_r8, e_law11_LeaseWider_r9, e_law11_LeaseWider_r10, e_law11_LeaseWider_r11, e_law11_LeaseWider_r12, e_law11_LeaseWider_r13, e_law11_LeaseWider_r14, e_law11_LeaseWider_r15, e_law11_LeaseWider_r16, e_law11_LeaseWider_r17, e_law11_LeaseWider_r18, hL1, hL2, hL3, hD, e3', hR, hP, c1, w0, w1, w2, w3, w4, n1, r1, r2, r3, C_wakes]
        · have e5 : ¬ leastF { p with most := p.most + 1 } p.l p.start = 1000000000000 := by omega
          simp only [hpm e3, e5, if_true, if_false] at hD2
          simp [-List.length_flatMap, -List.map_take, e_law11_LeaseWider_r0, e_law11_LeaseWider_r1, e_law11_LeaseWider_r2, e_law11_LeaseWider_r3, e_law11_LeaseWider_r4, e_law11_LeaseWider_r5, e_law11_LeaseWider_r6, e_law11_LeaseWider_r7, e_law11_LeaseWider_r8, e_law11_LeaseWider_r9, e_law11_LeaseWider_r10, e_law11_LeaseWider_r11, e_law11_LeaseWider_r12, e_law11_LeaseWider_r13, e_law11_LeaseWider_r14, e_law11_LeaseWider_r15, e_law11_LeaseWider_r16, e_law11_LeaseWider_r17, e_law11_LeaseWider_r18, hL1, hL2, hL3, hD, hD2, e3, w5, hmore, hR, hP, c1, w0, w1, w2, w3, w4, n1, r1, r2, r3, C_wakes]
    · simp only [e2, if_false] at hL2
      by_cases e4 : leastF p p.l p.start = 1000000000000
      · simp only [e4, if_true] at hL3 hD
        by_cases e3 : p.most = 3
        · have e3' : (p.most == 3) = true := by simpa using e3
          simp [-List.length_flatMap, -List.map_take, e_law11_LeaseWider_r0, e_law11_LeaseWider_r1, e_law11_LeaseWider_r2, e_law11_LeaseWider_r3, e_law11_LeaseWider_r4, e_law11_LeaseWider_r5, e_law11_LeaseWider_r6, e_law11_LeaseWider_r7, e_law11_LeaseWider_r8, e_law11_LeaseWider_r9, e_law11_LeaseWider_r10, e_law11_LeaseWider_r11, e_law11_LeaseWider_r12, e_law11_LeaseWider_r13, e_law11_LeaseWider_r14, e_law11_LeaseWider_r15, e_law11_LeaseWider_r16, e_law11_LeaseWider_r17, e_law11_LeaseWider_r18, hL1, hL2, hL3, hD, e3', hR, hP, c1, w0, w1, w2, w3, w4, n1, r1, r2, r3, C_wakes]
        · by_cases e5 : leastF { p with most := p.most + 1 } p.l p.start = 1000000000000
          · simp only [hpm e3, e5, if_true] at hD2
            simp [-List.length_flatMap, -List.map_take, e_law11_LeaseWider_r0, e_law11_LeaseWider_r1, e_law11_LeaseWider_r2, e_law11_LeaseWider_r3, e_law11_LeaseWider_r4, e_law11_LeaseWider_r5, e_law11_LeaseWider_r6, e_law11_LeaseWider_r7, e_law11_LeaseWider_r8, e_law11_LeaseWider_r9, e_law11_LeaseWider_r10, e_law11_LeaseWider_r11, e_law11_LeaseWider_r12, e_law11_LeaseWider_r13, e_law11_LeaseWider_r14, e_law11_LeaseWider_r15, e_law11_LeaseWider_r16, e_law11_LeaseWider_r17, e_law11_LeaseWider_r18, hL1, hL2, hL3, hD, hD2, e3, w5, hR, hP, c1, w0, w1, w2, w3, w4, n1, r1, r2, r3, C_wakes]
          · simp only [hpm e3, e5, if_true, if_false] at hD2
            simp [-List.length_flatMap, -List.map_take, e_law11_LeaseWider_r0, e_law11_LeaseWider_r1, e_law11_LeaseWider_r2, e_law11_LeaseWider_r3, e_law11_LeaseWider_r4, e_law11_LeaseWider_r5, e_law11_LeaseWider_r6, e_law11_LeaseWider_r7, e_law11_LeaseWider_r8, e_law11_LeaseWider_r9, e_law11_LeaseWider_r10, e_law11_LeaseWider_r11, e_law11_LeaseWider_r12, e_law11_LeaseWider_r13, e_law11_LeaseWider_r14, e_law11_LeaseWider_r15, e_law11_LeaseWider_r16, e_law11_LeaseWider_r17, e_law11_LeaseWider_r18, hL1, hL2, hL3, hD, hD2, e3, w5, hR, hP, c1, w0, w1, w2, w3, w4, n1, r1, r2, r3, C_wakes]
      · simp only [e4, if_false] at hL3 hD
        by_cases e3 : p.most = 3
        · have e3' : (p.most == 3) = true := by simpa using e3
          simp [-List.length_flatMap, -List.map_take, e_law11_LeaseWider_r0, e_law11_LeaseWider_r1, e_law11_LeaseWider_r2, e_law11_LeaseWider_r3, e_law11_LeaseWider_r4, e_law11_LeaseWider_r5, e_law11_LeaseWider_r6, e_law11_LeaseWider_r7, e_law11_LeaseWider_r8, e_law11_LeaseWider_r9, e_law11_LeaseWider_r10, e_law11_LeaseWider_r11, e_law11_LeaseWider_r12, e_law11_LeaseWider_r13, e_law11_LeaseWider_r14, e_law11_LeaseWider_r15, e_law11_LeaseWider_r16, e_law11_LeaseWider_r17, e_law11_LeaseWider_r18, hL1, hL2, hL3, hD, e3', hR, hP, c1, w0, w1, w2, w3, w4, n1, r1, r2, r3, C_wakes]
        · have e5 : ¬ leastF { p with most := p.most + 1 } p.l p.start = 1000000000000 := by omega
          simp only [hpm e3, e5, if_true, if_false] at hD2
          simp [-List.length_flatMap, -List.map_take, e_law11_LeaseWider_r0, e_law11_LeaseWider_r1, e_law11_LeaseWider_r2, e_law11_LeaseWider_r3, e_law11_LeaseWider_r4, e_law11_LeaseWider_r5, e_law11_LeaseWider_r6, e_law11_LeaseWider_r7, e_law11_LeaseWider_r8, e_law11_LeaseWider_r9, e_law11_LeaseWider_r10, e_law11_LeaseWider_r11, e_law11_LeaseWider_r12, e_law11_LeaseWider_r13, e_law11_LeaseWider_r14, e_law11_LeaseWider_r15, e_law11_LeaseWider_r16, e_law11_LeaseWider_r17, e_law11_LeaseWider_r18, hL1, hL2, hL3, hD, hD2, e3, w5, hmore, hR, hP, c1, w0, w1, w2, w3, w4, n1, r1, r2, r3, C_wakes]
  · simp only [e1, if_false] at hL1
    have e2 := k2 e1
    simp only [e2, if_false] at hL2
    by_cases e4 : leastF p p.l p.start = 1000000000000
    · simp only [e4, if_true] at hL3 hD
      have k3 : a2 ≤ a1 := hmono
      have k4 : ¬ a1 < a2 := by omega
      by_cases e3 : p.most = 3
      · have e3' : (p.most == 3) = true := by simpa using e3
        simp [-List.length_flatMap, -List.map_take, e_law11_LeaseWider_r0, e_law11_LeaseWider_r1, e_law11_LeaseWider_r2, e_law11_LeaseWider_r3, e_law11_LeaseWider_r4, e_law11_LeaseWider_r5, e_law11_LeaseWider_r6, e_law11_LeaseWider_r7, e_law11_LeaseWider_r8, e_law11_LeaseWider_r9, e_law11_LeaseWider_r10, e_law11_LeaseWider_r11, e_law11_LeaseWider_r12, e_law11_LeaseWider_r13, e_law11_LeaseWider_r14, e_law11_LeaseWider_r15, e_law11_LeaseWider_r16, e_law11_LeaseWider_r17, e_law11_LeaseWider_r18, hL1, hL2, hL3, hD, e3', e1, e2, k4, hR, hP, c1, w0, w1, w2, w3, w4, n1, r1, r2, r3, C_wakes]
      · by_cases e5 : leastF { p with most := p.most + 1 } p.l p.start = 1000000000000
        · simp only [hpm e3, e5, if_true] at hD2
          simp [-List.length_flatMap, -List.map_take, e_law11_LeaseWider_r0, e_law11_LeaseWider_r1, e_law11_LeaseWider_r2, e_law11_LeaseWider_r3, e_law11_LeaseWider_r4, e_law11_LeaseWider_r5, e_law11_LeaseWider_r6, e_law11_LeaseWider_r7, e_law11_LeaseWider_r8, e_law11_LeaseWider_r9, e_law11_LeaseWider_r10, e_law11_LeaseWider_r11, e_law11_LeaseWider_r12, e_law11_LeaseWider_r13, e_law11_LeaseWider_r14, e_law11_LeaseWider_r15, e_law11_LeaseWider_r16, e_law11_LeaseWider_r17, e_law11_LeaseWider_r18, hL1, hL2, hL3, hD, hD2, e3, w5, e1, e2, k4, hR, hP, c1, w0, w1, w2, w3, w4, n1, r1, r2, r3, C_wakes]
        · simp only [hpm e3, e5, if_true, if_false] at hD2
          simp [-List.length_flatMap, -List.map_take, e_law11_LeaseWider_r0, e_law11_LeaseWider_r1, e_law11_LeaseWider_r2, e_law11_LeaseWider_r3, e_law11_LeaseWider_r4, e_law11_LeaseWider_r5, e_law11_LeaseWider_r6, e_law11_LeaseWider_r7, e_law11_LeaseWider_r8, e_law11_LeaseWider_r9, e_law11_LeaseWider_r10, e_law11_LeaseWider_r11, e_law11_LeaseWider_r12, e_law11_LeaseWider_r13, e_law11_LeaseWider_r14, e_law11_LeaseWider_r15, e_law11_LeaseWider_r16, e_law11_LeaseWider_r17, e_law11_LeaseWider_r18, hL1, hL2, hL3, hD, hD2, e3, w5, e1, e2, k4, hR, hP, c1, w0, w1, w2, w3, w4, n1, r1, r2, r3, C_wakes]
    · simp only [e4, if_false] at hL3 hD
      have k3 : a2 ≤ a1 := hmono
      have k4 : ¬ a1 < a2 := by omega
      by_cases e3 : p.most = 3
      · have e3' : (p.most == 3) = true := by simpa using e3
        simp [-List.length_flatMap, -List.map_take, e_law11_LeaseWider_r0, e_law11_LeaseWider_r1, e_law11_LeaseWider_r2, e_law11_LeaseWider_r3, e_law11_LeaseWider_r4, e_law11_LeaseWider_r5, e_law11_LeaseWider_r6, e_law11_LeaseWider_r7, e_law11_LeaseWider_r8, e_law11_LeaseWider_r9, e_law11_LeaseWider_r10, e_law11_LeaseWider_r11, e_law11_LeaseWider_r12, e_law11_LeaseWider_r13, e_law11_LeaseWider_r14, e_law11_LeaseWider_r15, e_law11_LeaseWider_r16, e_law11_LeaseWider_r17, e_law11_LeaseWider_r18, hL1, hL2, hL3, hD, e3', e1, e2, k4, hR, hP, c1, w0, w1, w2, w3, w4, n1, r1, r2, r3, C_wakes]
      · have e5 : ¬ leastF { p with most := p.most + 1 } p.l p.start = 1000000000000 := by omega
        simp only [hpm e3, e5, if_true, if_false] at hD2
        simp [-List.length_flatMap, -List.map_take, e_law11_LeaseWider_r0, e_law11_LeaseWider_r1, e_law11_LeaseWider_r2, e_law11_LeaseWider_r3, e_law11_LeaseWider_r4, e_law11_LeaseWider_r5, e_law11_LeaseWider_r6, e_law11_LeaseWider_r7, e_law11_LeaseWider_r8, e_law11_LeaseWider_r9, e_law11_LeaseWider_r10, e_law11_LeaseWider_r11, e_law11_LeaseWider_r12, e_law11_LeaseWider_r13, e_law11_LeaseWider_r14, e_law11_LeaseWider_r15, e_law11_LeaseWider_r16, e_law11_LeaseWider_r17, e_law11_LeaseWider_r18, hL1, hL2, hL3, hD, hD2, e3, w5, hmore, e1, e2, k4, hR, hP, c1, w0, w1, w2, w3, w4, n1, r1, r2, r3, C_wakes]
theorem go_LeaseWider (x0 x1 x2 x3 : D) (t0 : (Ty.struct [.int .i64, .int .i64, .int .i64, .int .i64, .slice 2 (.struct [.int .i64, .int .i64])]).hasV x0) (t1 : (Ty.int .u8).hasV x1) (t2 : (Ty.int .u32).hasV x2) (t3 : (Ty.int .u32).hasV x3) :
    ∃ σ', lim T (.call false i_law11_LeaseWider [x0, x1, x2, x3] [[]]) = some (.val (.bool true) σ') := by
  obtain ⟨p, rfl⟩ := pg_of t0
  obtain ⟨b, rfl, hb⟩ := u8_of t1
  obtain ⟨c, rfl, hc⟩ := u32_of t2
  obtain ⟨d, rfl, hd⟩ := u32_of t3
  exact ⟨_, law_Wider hb hc hd⟩
end Go.Proofs.Ytcccafphhmcifaa
