/-
  Injections: of the program.
-/
import Derived.Test.YticpenoicajakaaGreatK10
set_option linter.unusedVariables false
set_option linter.unusedSimpArgs false
namespace Go.Proofs.YticpenoicajakaaGreat
open Go Go.Abs Go.Trem
variable {σ : Stack}

theorem C_inj1 {a : Int} : lim T (.call false i_tremor_Inject_1 [.int .i64 a] σ) = some (.val (.bool (amtOk a)) σ) := by
  refine call_of T_tremor_Inject_1 e_tremor_Inject_1 rfl ?_
  simp [-List.length_flatMap, -List.map_take, e_tremor_Inject_1_r0, e_tremor_Inject_1_r1, C_within, amtOk]
theorem C_inj2 {a : Int} : lim T (.call false i_tremor_Inject_2 [.int .u8 a] σ) = some (.val (.bool (decide (a ≤ 2))) σ) := by
  refine call_of T_tremor_Inject_2 e_tremor_Inject_2 rfl ?_
  simp [-List.length_flatMap, -List.map_take, e_tremor_Inject_2_r0, e_tremor_Inject_2_r1]
theorem C_all_amt {l : List Int} (hl : l.length ≤ 9223372036854775807) :
    lim T (.call false i_tremor_all_int [.lst l.length (l.flatMap intE), .fn i_tremor_Inject_1 [] []] σ) = some (.val (.bool (allB l amtOk)) σ) :=
  C_all_int hl (.fn fun a _ σ => C_inj1) rfl
theorem C_all_col {l : List Int} (hl : l.length ≤ 9223372036854775807) :
    lim T (.call false i_tremor_all_uint8 [.lst l.length (l.flatMap u8E), .fn i_tremor_Inject_2 [] []] σ) = some (.val (.bool (allB l fun c => decide (c ≤ 2))) σ) :=
  all_of (eltInt .u8) T_tremor_all_uint8 T_tremor_all_uint8_1 T_slices_ContainsFunc_uint8 T_slices_IndexFunc_uint8 hl (.fn fun a _ σ => C_inj2) rfl

structure InjW (p k : Int) : Prop where
  w1 : IntKind.i64.wrap (p * k) = p * k
  w2 : IntKind.i64.wrap ((p * k).tdiv 1000) = p * k / 1000
  w3 : 0 ≤ p * k / 1000
  w4 : p * k / 1000 ≤ 1000000000
theorem injW {p k : Int} (h0 : 0 ≤ p) (h1 : p ≤ 1000000000) (h2 : 0 ≤ k) (h3 : k ≤ 1000) : InjW p k := by
  have a1 : p * k ≤ 1000000000 * 1000 := Int.mul_le_mul h1 h3 h2 (by omega)
  have a2 : 0 ≤ p * k := Int.mul_nonneg h0 h2
  have t : (p * k).tdiv 1000 = p * k / 1000 := Int.tdiv_eq_ediv_of_nonneg a2
  refine ⟨w64 (by omega), ?_, by omega, by omega⟩
  rw [t]; exact w64 (by omega)

theorem set_zero {acc : List Int} {k : Nat} {v : Int} : (acc ++ List.replicate (k + 1) 0).set acc.length v = (acc ++ [v]) ++ List.replicate k 0 := by
  rw [List.set_append_right _ _ (Nat.le_refl _)]
  simp [List.replicate_succ]

theorem L_inj {plan cols : List Int} {k0 k1 k2 ramp : Int} (hl : plan.length ≤ 500) (hk : planOk plan cols k0 k1 k2 ramp = true) (hc0 : ∀ c ∈ cols, 0 ≤ c) : ∀ (m i : Nat) (acc : List Int), i + m = plan.length → acc.length = i → (∀ a ∈ acc, 0 ≤ a ∧ a ≤ 1000000000) →
    WL T [1, 3, 6, 11, 67, 68, 69] false f_tremor_Inject_l16 [(1, .lst cols.length (cols.flatMap u8E)), (3, .int .i64 ramp), (6, .cref [.int .i64 k0, .int .i64 k1, .int .i64 k2]), (11, .sl σ.length 0 0 0 plan.length 1),
        (67, .lst plan.length (plan.flatMap intE)), (68, .int .i64 plan.length), (69, .int .i64 i)]
        ([.cells 0 ((acc ++ List.replicate m 0).flatMap intE)] :: σ)
      (fun x e σ' => x = .exit 1 ∧ get e 11 = .sl σ.length 0 0 0 plan.length 1 ∧
        σ' = [.cells 0 ((acc ++ injL (keepOf k0 k1 k2) ramp (plan.drop i) (cols.drop i) acc.getLast?).flatMap intE)] :: σ)
  | 0, i, acc, hi, ha, hb => by
    refine WL_step e_tremor_Inject_l16 ?_
    have h1 : ¬ i < plan.length := by omega
    have h2 : plan.drop i = [] := by simp; omega
    simp [-List.length_flatMap, -List.map_take, e_tremor_Inject_r0, e_tremor_Inject_r1, e_tremor_Inject_r2, e_tremor_Inject_r3, e_tremor_Inject_r4, e_tremor_Inject_r5, e_tremor_Inject_r6, e_tremor_Inject_r7, e_tremor_Inject_r8, e_tremor_Inject_r9, e_tremor_Inject_r10, e_tremor_Inject_r11, e_tremor_Inject_r12, e_tremor_Inject_r13, e_tremor_Inject_r14, e_tremor_Inject_r15, e_tremor_Inject_r17, h1, h2, injL]
  | m + 1, i, acc, hi, ha, hb => by
    refine WL_step e_tremor_Inject_l16 ?_
    have hk' := hk
    simp only [planOk, keepOk, Bool.and_eq_true, decide_eq_true_eq, amtOk, inn_iff] at hk'
    obtain ⟨g1, g2, g3, g4, g5⟩ := hk'
    have h1 : i < plan.length := by omega
    obtain ⟨p, hp⟩ : ∃ x, plan[i]? = some x := ⟨_, List.getElem?_eq_getElem h1⟩
    obtain ⟨c, hc⟩ : ∃ x, cols[i]? = some x := ⟨_, List.getElem?_eq_getElem (by omega)⟩
    have h2 := flat_at (f := intE) (w := 1) (fun _ => rfl) hp
    have h3 := flat_at (f := u8E) (w := 1) (fun _ => rfl) hc
    simp only [Nat.mul_one] at h2 h3
    have h4 := wnext h1 (by omega)
    have h5 : i < cols.length := by omega
    have hpr := allB_iff.1 g1 p (List.mem_of_getElem? hp)
    have hcr := allB_iff.1 g3 c (List.mem_of_getElem? hc)
    have hcn := hc0 c (List.mem_of_getElem? hc)
    simp only [amtOk, inn_iff, decide_eq_true_eq] at hpr hcr
    have hkp : keepOf k0 k1 k2 c = (if c = 0 then k0 else if c = 1 then k1 else k2) := rfl
    have hkr : 0 ≤ keepOf k0 k1 k2 c ∧ keepOf k0 k1 k2 c ≤ 1000 := by rw [hkp]; split <;> (try split) <;> omega
    obtain ⟨w1, w2, w3, w4⟩ := injW hpr.1 hpr.2 hkr.1 hkr.2
    have hci : (0 : Int) ≤ c ∧ c < 3 := by omega
    have hcell : List.take 1 (List.drop c.toNat [D.int .i64 k0, D.int .i64 k1, D.int .i64 k2]) = [D.int .i64 (keepOf k0 k1 k2 c)] := by
      have : c = 0 ∨ c = 1 ∨ c = 2 := by omega
      rcases this with rfl | rfl | rfl <;> rfl
    have hlen : (acc ++ List.replicate (m + 1) (0 : Int)).length = plan.length := by simp; omega
    have f1 := flat_len (f := intE) (w := 1) (fun _ => rfl) (acc ++ List.replicate (m + 1) (0 : Int))
    rw [hlen, Nat.mul_one] at f1
    have s1 := int_set (o := acc ++ List.replicate (m + 1) (0 : Int)) (i := i) (by rw [hlen]; exact h1) (p * keepOf k0 k1 k2 c / 1000)
    have s2 := set_zero (acc := acc) (k := m) (v := p * keepOf k0 k1 k2 c / 1000)
    rw [ha] at s2
    rw [s2] at s1
    have hi1 : i + 1 ≤ plan.length := by omega
    rw [drop_at hp, drop_at hc]
    by_cases h0 : i = 0
    · have hacc : acc = [] := List.eq_nil_of_length_eq_zero (by omega)
      subst hacc
      subst h0
      simp only [List.nil_append, List.take_zero, List.flatMap_nil] at s1 f1
      simp only [List.drop_zero] at h2 h3
      have ih := L_inj hl hk hc0 m 1 [p * keepOf k0 k1 k2 c / 1000] (by omega) rfl (by simp; omega)
      simp [-List.length_flatMap, -List.map_take, e_tremor_Inject_r0, e_tremor_Inject_r1, e_tremor_Inject_r2, e_tremor_Inject_r3, e_tremor_Inject_r4, e_tremor_Inject_r5, e_tremor_Inject_r6, e_tremor_Inject_r7, e_tremor_Inject_r8, e_tremor_Inject_r9, e_tremor_Inject_r10, e_tremor_Inject_r11, e_tremor_Inject_r12, e_tremor_Inject_r13, e_tremor_Inject_r14, e_tremor_Inject_r15, e_tremor_Inject_r17, h1, h2, h3, h4, h5, hci, hcell, w1, w2, f1, hi1]
      have hr : (List.flatMap intE (List.replicate (m + 1) 0)).tail = List.flatMap intE (List.replicate m 0) := by simp [List.replicate_succ]
      refine WL.to ih (by simp) (by simp [hr]) fun x' e σ' hh => ?_
      simpa [injL] using hh
    · obtain ⟨q, hq⟩ : ∃ x, acc[i - 1]? = some x := ⟨_, List.getElem?_eq_getElem (by omega)⟩
      have hqr := hb q (List.mem_of_getElem? hq)
      have hlast : acc.getLast? = some q := by rw [List.getLast?_eq_getElem?, ha]; exact hq
      have q0 : (acc ++ [p * keepOf k0 k1 k2 c / 1000] ++ List.replicate m (0 : Int))[i]? = some (p * keepOf k0 k1 k2 c / 1000) := by simp [← ha]
      have q1 : (acc ++ [p * keepOf k0 k1 k2 c / 1000] ++ List.replicate m (0 : Int))[i - 1]? = some q := by
        rw [List.append_assoc, List.getElem?_append_left (by omega)]; exact hq
      have d0 := int_drop q0
      have d1 := int_drop q1
      have hlen2 : (acc ++ [p * keepOf k0 k1 k2 c / 1000] ++ List.replicate m (0 : Int)).length = plan.length := by simp; omega
      have f2 := flat_len (f := intE) (w := 1) (fun _ => rfl) (acc ++ [p * keepOf k0 k1 k2 c / 1000] ++ List.replicate m (0 : Int))
      rw [hlen2, Nat.mul_one] at f2
      have s3 := int_set (o := acc ++ [p * keepOf k0 k1 k2 c / 1000] ++ List.replicate m (0 : Int)) (i := i) (by rw [hlen2]; exact h1) (min (p * keepOf k0 k1 k2 c / 1000) (q + ramp))
      have s4 : (acc ++ [p * keepOf k0 k1 k2 c / 1000] ++ List.replicate m (0 : Int)).set i (min (p * keepOf k0 k1 k2 c / 1000) (q + ramp)) = acc ++ [min (p * keepOf k0 k1 k2 c / 1000) (q + ramp)] ++ List.replicate m 0 := by
        rw [List.append_assoc, List.set_append_right _ _ (by omega), ha]
        simp
      rw [s4] at s3
      have ih := L_inj hl hk hc0 m (i + 1) (acc ++ [min (p * keepOf k0 k1 k2 c / 1000) (q + ramp)]) (by omega) (by simp [ha]) (by
        intro a ham
        rcases List.mem_append.1 ham with h | h
        · exact hb a h
        · simp at h; omega)
      have h6 : 0 < i := by omega
      have v6 := w64 (n := (i : Int) - 1) (by omega)
      have v7 : ((i : Int) - 1).toNat = i - 1 := by omega
      have v8 : (1 : Int) ≤ i := by omega
      have v9 : (i : Int) - 1 < plan.length := by omega
      have v5 := w64 (n := q + ramp) (by omega)
      generalize hA : (acc ++ [p * keepOf k0 k1 k2 c / 1000] ++ List.replicate m (0 : Int)).flatMap intE = A at *
      generalize hB : (acc ++ List.replicate (m + 1) (0 : Int)).flatMap intE = B at *
      simp [-List.length_flatMap, -List.map_take, e_tremor_Inject_r0, e_tremor_Inject_r1, e_tremor_Inject_r2, e_tremor_Inject_r3, e_tremor_Inject_r4, e_tremor_Inject_r5, e_tremor_Inject_r6, e_tremor_Inject_r7, e_tremor_Inject_r8, e_tremor_Inject_r9, e_tremor_Inject_r10, e_tremor_Inject_r11, e_tremor_Inject_r12, e_tremor_Inject_r13, e_tremor_Inject_r14, e_tremor_Inject_r15, e_tremor_Inject_r17, h1, h2, h3, h4, h5, hci, hcell, w1, w2, f1, f2, hi1, s1, h6, v6, v7, v8, v9, v5, d0, d1, s3]
      refine WL.to ih (by simp) (by simp) fun x' e σ' hh => ?_
      rw [hlast]
      simpa [injL, List.append_assoc] using hh

theorem injL_len {k : Int → Int} {ramp : Int} : ∀ (ps cs : List Int) (q : Option Int), cs.length = ps.length → (injL k ramp ps cs q).length = ps.length
  | [], cs, q, _ => by cases cs <;> cases q <;> rfl
  | p :: ps, [], q, h => by simp at h
  | p :: ps, c :: cs, none, h => by simp at h; simp [injL, injL_len ps cs _ h]
  | p :: ps, c :: cs, some q, h => by simp at h; simp [injL, injL_len ps cs _ h]

def injOf (plan cols : List Int) (k0 k1 k2 ramp : Int) : List Int := injL (keepOf k0 k1 k2) ramp plan cols none

theorem C_Inject {plan cols : List Int} {k0 k1 k2 ramp : Int} (hl : plan.length ≤ 9223372036854775807) (hcl : cols.length ≤ 9223372036854775807) (hc0 : ∀ c ∈ cols, 0 ≤ c) (hσ : σ ≠ []) :
    lim T (.call false i_tremor_Inject [.lst plan.length (plan.flatMap intE), .lst cols.length (cols.flatMap u8E), .agg [.int .i64 k0, .int .i64 k1, .int .i64 k2], .int .i64 ramp] σ) =
      some (.val (if 500 < plan.length then .tup [.nils, .int .i64 3] else if planOk plan cols k0 k1 k2 ramp then .tup [.lst (injOf plan cols k0 k1 k2 ramp).length ((injOf plan cols k0 k1 k2 ramp).flatMap intE), .int .i64 0] else .tup [.nils, .int .i64 1]) σ) := by
  refine call_of T_tremor_Inject e_tremor_Inject rfl ?_
  by_cases c0 : 500 < plan.length
  · have c0' : (500 : Int) < plan.length := by omega
    simp [-List.length_flatMap, -List.map_take, e_tremor_Inject_r0, e_tremor_Inject_r1, e_tremor_Inject_r2, e_tremor_Inject_r3, e_tremor_Inject_r4, e_tremor_Inject_r5, e_tremor_Inject_r6, e_tremor_Inject_r7, e_tremor_Inject_r8, e_tremor_Inject_r9, e_tremor_Inject_r10, e_tremor_Inject_r11, e_tremor_Inject_r12, e_tremor_Inject_r13, e_tremor_Inject_r14, e_tremor_Inject_r15, e_tremor_Inject_r17, c0, c0']
  have c0' : ¬ (500 : Int) < plan.length := by omega
  have ho : planOk plan cols k0 k1 k2 ramp = (allB plan amtOk && (decide (cols.length = plan.length) && (allB cols (fun c => decide (c ≤ 2)) && (amtOk ramp && (decide (k0 ≤ 1000) && (decide (k1 ≤ k0) && (decide (k2 ≤ k1) && decide (0 ≤ k2)))))))) := rfl
  cases c1 : allB plan amtOk
  · simp [-List.length_flatMap, -List.map_take, e_tremor_Inject_r0, e_tremor_Inject_r1, e_tremor_Inject_r2, e_tremor_Inject_r3, e_tremor_Inject_r4, e_tremor_Inject_r5, e_tremor_Inject_r6, e_tremor_Inject_r7, e_tremor_Inject_r8, e_tremor_Inject_r9, e_tremor_Inject_r10, e_tremor_Inject_r11, e_tremor_Inject_r12, e_tremor_Inject_r13, e_tremor_Inject_r14, e_tremor_Inject_r15, e_tremor_Inject_r17, c0, c0', C_all_amt hl, ho, c1]
  by_cases c2 : cols.length = plan.length
  rotate_left
  · have c2' : ((cols.length : Int) != plan.length) = true := by simp; omega
    simp [-List.length_flatMap, -List.map_take, e_tremor_Inject_r0, e_tremor_Inject_r1, e_tremor_Inject_r2, e_tremor_Inject_r3, e_tremor_Inject_r4, e_tremor_Inject_r5, e_tremor_Inject_r6, e_tremor_Inject_r7, e_tremor_Inject_r8, e_tremor_Inject_r9, e_tremor_Inject_r10, e_tremor_Inject_r11, e_tremor_Inject_r12, e_tremor_Inject_r13, e_tremor_Inject_r14, e_tremor_Inject_r15, e_tremor_Inject_r17, c0, c0', C_all_amt hl, ho, c1, c2, c2']
  cases c3 : allB cols (fun c => decide (c ≤ 2))
  · have h3 := fun σ => @C_all_col σ cols hcl
    rw [c2] at h3
    simp [-List.length_flatMap, -List.map_take, e_tremor_Inject_r0, e_tremor_Inject_r1, e_tremor_Inject_r2, e_tremor_Inject_r3, e_tremor_Inject_r4, e_tremor_Inject_r5, e_tremor_Inject_r6, e_tremor_Inject_r7, e_tremor_Inject_r8, e_tremor_Inject_r9, e_tremor_Inject_r10, e_tremor_Inject_r11, e_tremor_Inject_r12, e_tremor_Inject_r13, e_tremor_Inject_r14, e_tremor_Inject_r15, e_tremor_Inject_r17, c0, c0', C_all_amt hl, ho, c1, c2, h3, c3]
  have h3 := fun σ => @C_all_col σ cols hcl
  rw [c2] at h3
  cases c4 : amtOk ramp
  · simp [-List.length_flatMap, -List.map_take, e_tremor_Inject_r0, e_tremor_Inject_r1, e_tremor_Inject_r2, e_tremor_Inject_r3, e_tremor_Inject_r4, e_tremor_Inject_r5, e_tremor_Inject_r6, e_tremor_Inject_r7, e_tremor_Inject_r8, e_tremor_Inject_r9, e_tremor_Inject_r10, e_tremor_Inject_r11, e_tremor_Inject_r12, e_tremor_Inject_r13, e_tremor_Inject_r14, e_tremor_Inject_r15, e_tremor_Inject_r17, c0, c0', C_all_amt hl, ho, c1, c2, h3, c3, C_inj1, c4]
  by_cases c5 : k0 ≤ 1000
  rotate_left
  · have c5' : 1000 < k0 := by omega
    simp [-List.length_flatMap, -List.map_take, e_tremor_Inject_r0, e_tremor_Inject_r1, e_tremor_Inject_r2, e_tremor_Inject_r3, e_tremor_Inject_r4, e_tremor_Inject_r5, e_tremor_Inject_r6, e_tremor_Inject_r7, e_tremor_Inject_r8, e_tremor_Inject_r9, e_tremor_Inject_r10, e_tremor_Inject_r11, e_tremor_Inject_r12, e_tremor_Inject_r13, e_tremor_Inject_r14, e_tremor_Inject_r15, e_tremor_Inject_r17, c0, c0', C_all_amt hl, ho, c1, c2, h3, c3, C_inj1, c4, c5, c5']
  have c5' : ¬ 1000 < k0 := by omega
  by_cases c6 : k1 ≤ k0
  rotate_left
  · have c6' : k0 < k1 := by omega
    simp [-List.length_flatMap, -List.map_take, e_tremor_Inject_r0, e_tremor_Inject_r1, e_tremor_Inject_r2, e_tremor_Inject_r3, e_tremor_Inject_r4, e_tremor_Inject_r5, e_tremor_Inject_r6, e_tremor_Inject_r7, e_tremor_Inject_r8, e_tremor_Inject_r9, e_tremor_Inject_r10, e_tremor_Inject_r11, e_tremor_Inject_r12, e_tremor_Inject_r13, e_tremor_Inject_r14, e_tremor_Inject_r15, e_tremor_Inject_r17, c0, c0', C_all_amt hl, ho, c1, c2, h3, c3, C_inj1, c4, c5, c5', c6, c6']
  have c6' : ¬ k0 < k1 := by omega
  by_cases c7 : k2 ≤ k1
  rotate_left
  · have c7' : k1 < k2 := by omega
    simp [-List.length_flatMap, -List.map_take, e_tremor_Inject_r0, e_tremor_Inject_r1, e_tremor_Inject_r2, e_tremor_Inject_r3, e_tremor_Inject_r4, e_tremor_Inject_r5, e_tremor_Inject_r6, e_tremor_Inject_r7, e_tremor_Inject_r8, e_tremor_Inject_r9, e_tremor_Inject_r10, e_tremor_Inject_r11, e_tremor_Inject_r12, e_tremor_Inject_r13, e_tremor_Inject_r14, e_tremor_Inject_r15, e_tremor_Inject_r17, c0, c0', C_all_amt hl, ho, c1, c2, h3, c3, C_inj1, c4, c5, c5', c6, c6', c7, c7']
  have c7' : ¬ k1 < k2 := by omega
  by_cases c8 : 0 ≤ k2
  rotate_left
  · have c8' : k2 < 0 := by omega
    simp [-List.length_flatMap, -List.map_take, e_tremor_Inject_r0, e_tremor_Inject_r1, e_tremor_Inject_r2, e_tremor_Inject_r3, e_tremor_Inject_r4, e_tremor_Inject_r5, e_tremor_Inject_r6, e_tremor_Inject_r7, e_tremor_Inject_r8, e_tremor_Inject_r9, e_tremor_Inject_r10, e_tremor_Inject_r11, e_tremor_Inject_r12, e_tremor_Inject_r13, e_tremor_Inject_r14, e_tremor_Inject_r15, e_tremor_Inject_r17, c0, c0', C_all_amt hl, ho, c1, c2, h3, c3, C_inj1, c4, c5, c5', c6, c6', c7, c7', c8, c8']
  have c8' : ¬ k2 < 0 := by omega
  have hk : planOk plan cols k0 k1 k2 ramp = true := by rw [ho]; simp [c1, c2, c3, c4, c5, c6, c7, c8]
  rw [hk]
  have hroom : (plan.length : Int) * 8 ≤ (room : Int) := by unfold room; omega
  have L := L_inj (σ := σ) (plan := plan) (cols := cols) (by omega) hk hc0 plan.length 0 [] (by omega) rfl (by simp)
  simp only [List.nil_append, List.drop_zero, List.getLast?_nil, c2] at L
  have hz := zeros_int plan.length
  simp [-List.length_flatMap, -List.map_take, e_tremor_Inject_r0, e_tremor_Inject_r1, e_tremor_Inject_r2, e_tremor_Inject_r3, e_tremor_Inject_r4, e_tremor_Inject_r5, e_tremor_Inject_r6, e_tremor_Inject_r7, e_tremor_Inject_r8, e_tremor_Inject_r9, e_tremor_Inject_r10, e_tremor_Inject_r11, e_tremor_Inject_r12, e_tremor_Inject_r13, e_tremor_Inject_r14, e_tremor_Inject_r15, e_tremor_Inject_r17, c0, c0', C_all_amt hl, c1, c2, h3, c3, C_inj1, c4, c5', c6', c7', c8', hroom, hz]
  refine WL.to L (by simp) (by simp) ?_
  rintro x e σ' ⟨rfl, h2, rfl⟩
  have hil : (injOf plan cols k0 k1 k2 ramp).length = plan.length := injL_len _ _ _ c2
  have hdef : injL (keepOf k0 k1 k2) ramp plan cols none = injOf plan cols k0 k1 k2 ramp := rfl
  simp only [List.drop_zero]
  rw [hdef]
  simp [-List.length_flatMap, -List.map_take, h2, e_tremor_Inject_r17]
  rw [frz_tup (by simp) (by omega)]
  have h3' : ¬ σ.length ≤ σ.length - 1 := by have := List.length_pos_iff.2 hσ; omega
  have h4 := flat_self (f := intE) (w := 1) (fun _ => rfl) (injOf plan cols k0 k1 k2 ramp)
  rw [hil] at h4
  simp only [Nat.mul_one] at h4
  have h5 : D.cleanL ((injOf plan cols k0 k1 k2 ramp).flatMap intE) = true := cleanL_flat fun x _ => by simp
  simp only [frzL_cons, frzL_nil]
  rw [frz_sl h3' (cs := (injOf plan cols k0 k1 k2 ramp).flatMap intE) (by simp) (by omega)]
  simp [h4, h5, hil, c0]
end Go.Proofs.YticpenoicajakaaGreat
