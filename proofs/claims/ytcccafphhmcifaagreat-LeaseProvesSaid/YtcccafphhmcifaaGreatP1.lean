/-
  An amount in parts, layer 11: a part bit by bit; ranks by insertion.
-/
import Derived.Test.YtcccafphhmcifaaGreatD2
import Derived.Test.YtcccafphhmcifaaGreatSplitSpec
set_option linter.unusedVariables false
set_option linter.unusedSimpArgs false
namespace Go.Proofs.YtcccafphhmcifaaGreat
open Go Go.Abs Go.Lease
variable {σ : Stack}

theorem and_one {A : Int} (h : 0 ≤ A) (h2 : A ≤ 9223372036854775807) : IntKind.i64.wrap (((BitVec.ofInt IntKind.i64.bits A &&& BitVec.ofInt IntKind.i64.bits 1).toNat : Nat) : Int) = A % 2 := by
  have e : (BitVec.ofInt IntKind.i64.bits A &&& BitVec.ofInt IntKind.i64.bits 1).toNat = A.toNat % 2 := by
    rw [BitVec.toNat_and, BitVec.toNat_ofInt, BitVec.toNat_ofInt]
    have h3 : IntKind.i64.bits = 64 := rfl
    rw [h3]
    have h4 : (A % ((2 ^ 64 : Nat) : Int)).toNat = A.toNat := by
      rw [Int.emod_eq_of_lt h (by omega)]
    have h5 : ((1 : Int) % ((2 ^ 64 : Nat) : Int)).toNat = 1 := by decide
    rw [h4, h5, Nat.and_one_is_mod]
  rw [e, w64 (by omega)]
  omega
theorem shr_at {a : Int} (h : 0 ≤ a) (b : Nat) : a.fdiv (2 ^ b) = a / 2 ^ b := Int.fdiv_eq_ediv_of_nonneg _ (Int.pow_nonneg (by decide))
theorem half_bd {a : Int} (h : 0 ≤ a ∧ a ≤ 1000000000000) (b : Nat) : 0 ≤ a / 2 ^ b ∧ a / 2 ^ b ≤ 1000000000000 := by
  refine ⟨Int.ediv_nonneg h.1 (Int.pow_nonneg (by decide)), ?_⟩
  have := Int.ediv_le_self (a := a) (2 ^ b) h.1
  omega
/-- What holds ahead of a bit. -/
structure PB (a w W : Int) (b : Nat) : Prop where
  q0 : 0 ≤ a / 2 ^ b * w / W
  q1 : a / 2 ^ b * w / W ≤ 1000000000000
  r0 : 0 ≤ a / 2 ^ b * w % W
  r1 : a / 2 ^ b * w % W < W
theorem pb_of {a w W : Int} (ha : 0 ≤ a ∧ a ≤ 1000000000000) (hw : 0 ≤ w ∧ w ≤ W) (hW : 0 < W) (b : Nat) : PB a w W b := by
  have h1 := half_bd ha b
  have h2 := q_bd hW h1.1 hw.1 hw.2
  have h3 := r_bd (A := a / 2 ^ b) (w := w) hW
  exact ⟨h2.1, by omega, h3.1, h3.2⟩
theorem L_part {a w W : Int} (ha : 0 ≤ a ∧ a ≤ 1000000000000) (hw : 0 ≤ w ∧ w ≤ W) (hW : 0 < W) (hW2 : W ≤ 100000000000000) : ∀ (b : Nat), b ≤ 40 →
    WL T [0, 1, 2, 6, 7] false f_lease_part_l9 [(0, .int .i64 a), (1, .int .i64 w), (2, .int .i64 W), (6, .own 0 [.int .i64 (a / 2 ^ b * w / W), .int .i64 (a / 2 ^ b * w % W)]), (7, .int .i64 ((b : Int) - 1))] σ
      (fun x e σ' => σ' = σ ∧ x = .exit 0 ∧ get e 6 = .own 0 [.int .i64 (a * w / W), .int .i64 (a * w % W)])
  | 0, _ => by
    refine WL_step e_lease_part_l9 ?_
    simp [-List.length_flatMap, -List.map_take, e_lease_part_r0, e_lease_part_r1, e_lease_part_r2, e_lease_part_r3, e_lease_part_r4, e_lease_part_r5, e_lease_part_r6, e_lease_part_r7, e_lease_part_r8, e_lease_part_r10]
  | b + 1, hb => by
    refine WL_step e_lease_part_l9 ?_
    have p1 := pb_of ha hw hW (b + 1)
    have p0 := pb_of ha hw hW b
    have st := part_step (a := a) (w := w) hW (half_next a ha.1 b)
    have h0 := half_bd ha b
    have b0 : min b 64 = b := by omega
    have e1 := shr_at ha.1 b
    have e2 : max (a / 2 ^ b % 18446744073709551616) 0 % 2 = a / 2 ^ b % 2 := by omega
    have e3 := w64 (n := a / 2 ^ b % 2) (by omega)
    have ih := L_part ha hw hW hW2 b (by omega)
    have wb := w64 (n := (b : Int) - 1) (by omega)
    have hb0 : ¬ ((b : Int) < 0) := by omega
    have hWn : ¬ W = 0 := by omega
    have bb : IntKind.i64.bits = 64 := rfl
    obtain ⟨q0, q1, r0, r1⟩ := p1
    obtain ⟨q0', q1', r0', r1'⟩ := p0
    generalize a / 2 ^ (b + 1) * w / W = q at *
    generalize a / 2 ^ (b + 1) * w % W = r at *
    have w1 := w64 (n := 2 * q) (by omega)
    have w2 := w64 (n := 2 * r) (by omega)
    by_cases h2 : a / 2 ^ b % 2 = 1
    · rw [if_pos h2] at st
      have t1 : (2 * r + w).tdiv W = (2 * r + w) / W := Int.tdiv_eq_ediv_of_nonneg (by omega)
      have t2 : (2 * r + w).tmod W = (2 * r + w) % W := Int.tmod_eq_emod_of_nonneg (by omega)
      have t3 := Int.ediv_nonneg (show 0 ≤ 2 * r + w by omega) (show 0 ≤ W by omega)
      have t4 := Int.ediv_le_self (a := 2 * r + w) W (by omega)
      have w3 := w64 (n := 2 * r + w) (by omega)
      have w4 := w64 (n := (2 * r + w) / W) (by omega)
      have w5 := w64 (n := 2 * q + (2 * r + w) / W) (by omega)
      simp [-List.length_flatMap, -List.map_take, e_lease_part_r0, e_lease_part_r1, e_lease_part_r2, e_lease_part_r3, e_lease_part_r4, e_lease_part_r5, e_lease_part_r6, e_lease_part_r7, e_lease_part_r8, e_lease_part_r10, w1, w2, w3, w4, w5, t1, t2, e1, e2, e3, h2, b0, bb, hb0, hWn, wb]
      exact WL.to ih (by simp [st]) rfl fun x e σ hh => hh
    · rw [if_neg h2, Int.add_zero] at st
      have t1 : (2 * r).tdiv W = (2 * r) / W := Int.tdiv_eq_ediv_of_nonneg (by omega)
      have t2 : (2 * r).tmod W = (2 * r) % W := Int.tmod_eq_emod_of_nonneg (by omega)
      have t3 := Int.ediv_nonneg (show 0 ≤ 2 * r by omega) (show 0 ≤ W by omega)
      have t4 := Int.ediv_le_self (a := 2 * r) W (by omega)
      have w4 := w64 (n := (2 * r) / W) (by omega)
      have w5 := w64 (n := 2 * q + (2 * r) / W) (by omega)
      simp [-List.length_flatMap, -List.map_take, e_lease_part_r0, e_lease_part_r1, e_lease_part_r2, e_lease_part_r3, e_lease_part_r4, e_lease_part_r5, e_lease_part_r6, e_lease_part_r7, e_lease_part_r8, e_lease_part_r10, w1, w2, w4, w5, t1, t2, e1, e2, e3, h2, b0, bb, hb0, hWn, wb]
      exact WL.to ih (by simp [st]) rfl fun x e σ hh => hh
theorem C_part {a w W : Int} (ha : 0 ≤ a ∧ a ≤ 1000000000000) (hw : 0 ≤ w ∧ w ≤ W) (hW : 0 < W) (hW2 : W ≤ 100000000000000) : lim T (.call false i_lease_part [.int .i64 a, .int .i64 w, .int .i64 W] σ) = some (.val (.agg [.int .i64 (a * w / W), .int .i64 (a * w % W)]) σ) := by
  refine call_of T_lease_part e_lease_part rfl ?_
  have hz : a / 2 ^ 40 = 0 := big_zero ha (by omega)
  have := L_part (σ := [] :: σ) ha hw hW hW2 40 (by omega)
  rw [hz] at this
  simp [-List.length_flatMap, -List.map_take, e_lease_part_r0, e_lease_part_r1, e_lease_part_r2, e_lease_part_r3, e_lease_part_r4, e_lease_part_r5, e_lease_part_r6, e_lease_part_r7, e_lease_part_r8, e_lease_part_r10]
  refine WL.to this (by simp) rfl ?_
  rintro x e σ' ⟨rfl, rfl, g6⟩
  simp [-List.length_flatMap, -List.map_take, e_lease_part_r10, g6]
end Go.Proofs.YtcccafphhmcifaaGreat
