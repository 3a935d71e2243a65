/-
  The law TremorInjects answers true.
-/
import Derived.Test.YticpenoicajakaaK12
import Derived.Test.YticpenoicajakaaTremTy
set_option linter.unusedVariables false
set_option linter.unusedSimpArgs false
namespace Go.Proofs.Yticpenoicajakaa
open Go Go.Abs Go.Trem
variable {σ : Stack}

theorem allB_nil {α : Type} {p : α → Bool} : allB [] p = true := rfl
theorem allB_cons {α : Type} {x : α} {l : List α} {p : α → Bool} : allB (x :: l) p = (p x && allB l p) := rfl

theorem L_RightPlan {plan cols : List Int} (hl : plan.length ≤ 9223372036854775807) (hc : cols.length = plan.length) : ∀ (m i : Nat), i + m = plan.length →
    WL T [0, 1, 9] false f_ref09_RightPlan_l8 [(0, .lst plan.length (plan.flatMap intE)), (1, .lst plan.length (cols.flatMap u8E)), (9, .int .i64 i)] σ
      (fun x e σ' => σ' = σ ∧ if allB (plan.drop i) amtOk && allB (cols.drop i) (fun c => decide (c ≤ 2)) then x = .exit 0 else x = .ret ∧ get e 8 = .bool false)
  | 0, i, hi => by
    refine WL_step e_ref09_RightPlan_l8 ?_
    have h1 : ¬ i < plan.length := by omega
    have h2 : plan.drop i = [] := by simp; omega
    have h3 : cols.drop i = [] := by simp; omega
    simp [-List.length_flatMap, -List.map_take, e_ref09_RightPlan_r0, e_ref09_RightPlan_r1, e_ref09_RightPlan_r2, e_ref09_RightPlan_r3, e_ref09_RightPlan_r4, e_ref09_RightPlan_r5, e_ref09_RightPlan_r6, e_ref09_RightPlan_r7, e_ref09_RightPlan_r9, h1, h2, h3, allB_nil]
  | m + 1, i, hi => by
    refine WL_step e_ref09_RightPlan_l8 ?_
    have ih := L_RightPlan hl hc m (i + 1) (by omega)
    have h1 : i < plan.length := by omega
    obtain ⟨p, hp⟩ : ∃ x, plan[i]? = some x := ⟨_, List.getElem?_eq_getElem h1⟩
    obtain ⟨c, hcc⟩ : ∃ x, cols[i]? = some x := ⟨_, List.getElem?_eq_getElem (by omega)⟩
    have h2 := flat_at (f := intE) (w := 1) (fun _ => rfl) hp
    have h3 := flat_at (f := u8E) (w := 1) (fun _ => rfl) hcc
    simp only [Nat.mul_one] at h2 h3
    have h4 := wnext h1 hl
    rw [drop_at hp, drop_at hcc, allB_cons, allB_cons]
    have hin : inn p 0 1000000000 = amtOk p := rfl
    cases c1 : amtOk p
    · simp [-List.length_flatMap, -List.map_take, e_ref09_RightPlan_r0, e_ref09_RightPlan_r1, e_ref09_RightPlan_r2, e_ref09_RightPlan_r3, e_ref09_RightPlan_r4, e_ref09_RightPlan_r5, e_ref09_RightPlan_r6, e_ref09_RightPlan_r7, e_ref09_RightPlan_r9, h1, h2, h4, C_In, hin, c1]
    by_cases c2 : c ≤ 2
    rotate_left
    · have c2' : 2 < c := by omega
      simp [-List.length_flatMap, -List.map_take, e_ref09_RightPlan_r0, e_ref09_RightPlan_r1, e_ref09_RightPlan_r2, e_ref09_RightPlan_r3, e_ref09_RightPlan_r4, e_ref09_RightPlan_r5, e_ref09_RightPlan_r6, e_ref09_RightPlan_r7, e_ref09_RightPlan_r9, h1, h2, h3, h4, C_In, hin, c1, c2, c2']
    have c2' : ¬ 2 < c := by omega
    simp [-List.length_flatMap, -List.map_take, e_ref09_RightPlan_r0, e_ref09_RightPlan_r1, e_ref09_RightPlan_r2, e_ref09_RightPlan_r3, e_ref09_RightPlan_r4, e_ref09_RightPlan_r5, e_ref09_RightPlan_r6, e_ref09_RightPlan_r7, e_ref09_RightPlan_r9, h1, h2, h3, h4, C_In, hin, c1, c2']
    refine WL.to ih (by simp) rfl fun x e σ' hh => ?_
    simpa [c2] using hh

theorem C_RightPlan {plan cols : List Int} {k0 k1 k2 ramp : Int} (hl : plan.length ≤ 9223372036854775807) :
    lim T (.call false i_ref09_RightPlan [.lst plan.length (plan.flatMap intE), .lst cols.length (cols.flatMap u8E), .agg [.int .i64 k0, .int .i64 k1, .int .i64 k2], .int .i64 ramp] σ) =
      some (.val (.bool (planOk plan cols k0 k1 k2 ramp)) σ) := by
  refine call_of T_ref09_RightPlan e_ref09_RightPlan rfl ?_
  have ho : planOk plan cols k0 k1 k2 ramp = (allB plan amtOk && (decide (cols.length = plan.length) && (allB cols (fun c => decide (c ≤ 2)) && (amtOk ramp && (decide (k0 ≤ 1000) && (decide (k1 ≤ k0) && (decide (k2 ≤ k1) && decide (0 ≤ k2)))))))) := rfl
  rw [ho]
  by_cases c2 : cols.length = plan.length
  rotate_left
  · have c2' : ((cols.length : Int) != plan.length) = true := by simp; omega
    simp [-List.length_flatMap, -List.map_take, e_ref09_RightPlan_r0, e_ref09_RightPlan_r1, e_ref09_RightPlan_r2, e_ref09_RightPlan_r3, e_ref09_RightPlan_r4, e_ref09_RightPlan_r5, e_ref09_RightPlan_r6, e_ref09_RightPlan_r7, e_ref09_RightPlan_r9, c2, c2']
  have hin : inn ramp 0 1000000000 = amtOk ramp := rfl
  cases c4 : amtOk ramp
  · simp [-List.length_flatMap, -List.map_take, e_ref09_RightPlan_r0, e_ref09_RightPlan_r1, e_ref09_RightPlan_r2, e_ref09_RightPlan_r3, e_ref09_RightPlan_r4, e_ref09_RightPlan_r5, e_ref09_RightPlan_r6, e_ref09_RightPlan_r7, e_ref09_RightPlan_r9, c2, C_In, hin, c4]
  by_cases c5 : k0 ≤ 1000
  rotate_left
  · have c5' : 1000 < k0 := by omega
    simp [-List.length_flatMap, -List.map_take, e_ref09_RightPlan_r0, e_ref09_RightPlan_r1, e_ref09_RightPlan_r2, e_ref09_RightPlan_r3, e_ref09_RightPlan_r4, e_ref09_RightPlan_r5, e_ref09_RightPlan_r6, e_ref09_RightPlan_r7, e_ref09_RightPlan_r9, c2, C_In, hin, c4, c5, c5']
  have c5' : ¬ 1000 < k0 := by omega
  by_cases c8 : 0 ≤ k2
  rotate_left
  · have c8' : k2 < 0 := by omega
    simp [-List.length_flatMap, -List.map_take, e_ref09_RightPlan_r0, e_ref09_RightPlan_r1, e_ref09_RightPlan_r2, e_ref09_RightPlan_r3, e_ref09_RightPlan_r4, e_ref09_RightPlan_r5, e_ref09_RightPlan_r6, e_ref09_RightPlan_r7, e_ref09_RightPlan_r9, c2, C_In, hin, c4, c5, c5', c8, c8']
  have c8' : ¬ k2 < 0 := by omega
  by_cases c6 : k1 ≤ k0
  rotate_left
  · have c6' : k0 < k1 := by omega
    simp [-List.length_flatMap, -List.map_take, e_ref09_RightPlan_r0, e_ref09_RightPlan_r1, e_ref09_RightPlan_r2, e_ref09_RightPlan_r3, e_ref09_RightPlan_r4, e_ref09_RightPlan_r5, e_ref09_RightPlan_r6, e_ref09_RightPlan_r7, e_ref09_RightPlan_r9, c2, C_In, hin, c4, c5, c5', c8, c8', c6, c6']
  have c6' : ¬ k0 < k1 := by omega
  by_cases c7 : k2 ≤ k1
  rotate_left
  · have c7' : k1 < k2 := by omega
    simp [-List.length_flatMap, -List.map_take, e_ref09_RightPlan_r0, e_ref09_RightPlan_r1, e_ref09_RightPlan_r2, e_ref09_RightPlan_r3, e_ref09_RightPlan_r4, e_ref09_RightPlan_r5, e_ref09_RightPlan_r6, e_ref09_RightPlan_r7, e_ref09_RightPlan_r9, c2, C_In, hin, c4, c5, c5', c8, c8', c6, c6', c7, c7']
  have c7' : ¬ k1 < k2 := by omega
  simp [-List.length_flatMap, -List.map_take, e_ref09_RightPlan_r0, e_ref09_RightPlan_r1, e_ref09_RightPlan_r2, e_ref09_RightPlan_r3, e_ref09_RightPlan_r4, e_ref09_RightPlan_r5, e_ref09_RightPlan_r6, e_ref09_RightPlan_r7, e_ref09_RightPlan_r9, c2, C_In, hin, c4, c5', c8', c6', c7']
  refine WL.to (L_RightPlan (σ := [] :: σ) (plan := plan) (cols := cols) hl c2 plan.length 0 (by omega)) (by simp [c2]) rfl ?_
  rintro x e σ' ⟨rfl, h2⟩
  simp only [List.drop_zero] at h2
  cases d1 : allB plan amtOk
  · rw [d1] at h2
    simp at h2
    obtain ⟨rfl, h2⟩ := h2
    simp [h2]
  cases d2 : allB cols (fun c => decide (c ≤ 2))
  · rw [d1, d2] at h2
    simp at h2
    obtain ⟨rfl, h2⟩ := h2
    simp [h2]
  rw [d1, d2] at h2
  simp at h2
  subst h2
  simp [-List.length_flatMap, -List.map_take, e_ref09_RightPlan_r9, c2, c4, c5, c6, c7, c8]

theorem L_InjectR {plan cols : List Int} {k0 k1 k2 ramp : Int} (hl : plan.length ≤ 500) (hk : planOk plan cols k0 k1 k2 ramp = true) (hc0 : ∀ c ∈ cols, 0 ≤ c) : ∀ (m i : Nat) (acc : List Int), i + m = plan.length → acc.length = i → (∀ a ∈ acc, 0 ≤ a ∧ a ≤ 1000000000) →
    WL T [0, 1, 3, 6, 9, 10] false f_ref09_Inject_l9 [(0, .lst plan.length (plan.flatMap intE)), (1, .lst cols.length (cols.flatMap u8E)), (3, .int .i64 ramp), (6, .cref [.int .i64 k0, .int .i64 k1, .int .i64 k2]), (9, .sl σ.length 0 i 0 i 1), (10, .int .i64 i)]
        ([.cells i (acc.flatMap intE)] :: σ)
      (fun x e σ' => x = .exit 0 ∧ get e 9 = .sl σ.length 0 plan.length 0 plan.length 1 ∧
        σ' = [.cells plan.length ((acc ++ injL (keepOf k0 k1 k2) ramp (plan.drop i) (cols.drop i) acc.getLast?).flatMap intE)] :: σ)
  | 0, i, acc, hi, ha, hb => by
    refine WL_step e_ref09_Inject_l9 ?_
    have h1 : ¬ i < plan.length := by omega
    have h2 : plan.drop i = [] := by simp; omega
    have h3 : i = plan.length := by omega
    simp [-List.length_flatMap, -List.map_take, e_ref09_Inject_r0, e_ref09_Inject_r1, e_ref09_Inject_r2, e_ref09_Inject_r3, e_ref09_Inject_r4, e_ref09_Inject_r5, e_ref09_Inject_r6, e_ref09_Inject_r7, e_ref09_Inject_r8, e_ref09_Inject_r10, h1, h2, injL]
    subst h3
    simp
  | m + 1, i, acc, hi, ha, hb => by
    refine WL_step e_ref09_Inject_l9 ?_
    have hk' := hk
    simp only [planOk, keepOk, Bool.and_eq_true, decide_eq_true_eq, amtOk, inn_iff] at hk'
    obtain ⟨g1, g2, g3, g4, g5⟩ := hk'
    have h1 : i < plan.length := by omega
    obtain ⟨p, hp⟩ : ∃ x, plan[i]? = some x := ⟨_, List.getElem?_eq_getElem h1⟩
    obtain ⟨c, hc⟩ : ∃ x, cols[i]? = some x := ⟨_, List.getElem?_eq_getElem (by omega)⟩
    have h2 := flat_at (f := intE) (w := 1) (fun _ => rfl) hp
    have h3 := flat_at (f := u8E) (w := 1) (fun _ => rfl) hc
    simp only [Nat.mul_one] at h2 h3
    have h4 := wnext h1 (by omega)
    have h5 : i < cols.length := by omega
    have hpr := allB_iff.1 g1 p (List.mem_of_getElem? hp)
    have hcr := allB_iff.1 g3 c (List.mem_of_getElem? hc)
    have hcn := hc0 c (List.mem_of_getElem? hc)
    simp only [amtOk, inn_iff, decide_eq_true_eq] at hpr hcr
    have hkp : keepOf k0 k1 k2 c = (if c = 0 then k0 else if c = 1 then k1 else k2) := rfl
    have hkr : 0 ≤ keepOf k0 k1 k2 c ∧ keepOf k0 k1 k2 c ≤ 1000 := by rw [hkp]; split <;> (try split) <;> omega
    obtain ⟨w1, w2, w3, w4⟩ := injW hpr.1 hpr.2 hkr.1 hkr.2
    have hci : (0 : Int) ≤ c ∧ c < 3 := by omega
    have hcell : List.take 1 (List.drop c.toNat [D.int .i64 k0, D.int .i64 k1, D.int .i64 k2]) = [D.int .i64 (keepOf k0 k1 k2 c)] := by
      have : c = 0 ∨ c = 1 ∨ c = 2 := by omega
      rcases this with rfl | rfl | rfl <;> rfl
    have f1 := flat_len (f := intE) (w := 1) (fun _ => rfl) acc
    have f2 := flat_self (f := intE) (w := 1) (fun _ => rfl) acc
    rw [ha] at f1 f2
    simp only [Nat.mul_one] at f1 f2
    have hroom : (i + 1) * 8 ≤ room := by unfold room; omega
    rw [drop_at hp, drop_at hc]
    by_cases h0 : i = 0
    · have hacc : acc = [] := List.eq_nil_of_length_eq_zero (by omega)
      subst hacc
      subst h0
      simp only [List.drop_zero] at h2 h3
      have ih := L_InjectR hl hk hc0 m 1 [p * keepOf k0 k1 k2 c / 1000] (by omega) rfl (by simp; omega)
      have hroom' : 8 ≤ room := by unfold room; omega
      simp [-List.length_flatMap, -List.map_take, e_ref09_Inject_r0, e_ref09_Inject_r1, e_ref09_Inject_r2, e_ref09_Inject_r3, e_ref09_Inject_r4, e_ref09_Inject_r5, e_ref09_Inject_r6, e_ref09_Inject_r7, e_ref09_Inject_r8, e_ref09_Inject_r10, h1, h2, h3, h4, h5, hci, hcell, w1, w2, hroom']
      refine WL.to ih (by simp) (by simp) fun x' e σ' hh => ?_
      simpa [injL] using hh
    · obtain ⟨q, hq⟩ : ∃ x, acc[i - 1]? = some x := ⟨_, List.getElem?_eq_getElem (by omega)⟩
      have hqr := hb q (List.mem_of_getElem? hq)
      have hlast : acc.getLast? = some q := by rw [List.getLast?_eq_getElem?, ha]; exact hq
      have d1 := int_drop hq
      have ih := L_InjectR hl hk hc0 m (i + 1) (acc ++ [min (p * keepOf k0 k1 k2 c / 1000) (q + ramp)]) (by omega) (by simp [ha]) (by
        intro a ham
        rcases List.mem_append.1 ham with h | h
        · exact hb a h
        · simp at h; omega)
      have h6 : 0 < i := by omega
      have v6 := w64 (n := (i : Int) - 1) (by omega)
      have v7 : ((i : Int) - 1).toNat = i - 1 := by omega
      have v8 : (1 : Int) ≤ i := by omega
      have v9 : (i : Int) - 1 < i := by omega
      have v5 := w64 (n := q + ramp) (by omega)
      simp [-List.length_flatMap, -List.map_take, e_ref09_Inject_r0, e_ref09_Inject_r1, e_ref09_Inject_r2, e_ref09_Inject_r3, e_ref09_Inject_r4, e_ref09_Inject_r5, e_ref09_Inject_r6, e_ref09_Inject_r7, e_ref09_Inject_r8, e_ref09_Inject_r10, h1, h2, h3, h4, h5, hci, hcell, w1, w2, f1, f2, h6, v6, v7, v8, v9, v5, d1, hroom]
      refine WL.to ih (by simp) (by simp) fun x' e σ' hh => ?_
      rw [hlast]
      simpa [injL, List.append_assoc] using hh

theorem C_InjectR {plan cols : List Int} {k0 k1 k2 ramp : Int} (hl : plan.length ≤ 500) (hk : planOk plan cols k0 k1 k2 ramp = true) (hc0 : ∀ c ∈ cols, 0 ≤ c) (hσ : σ ≠ []) :
    lim T (.call false i_ref09_Inject [.lst plan.length (plan.flatMap intE), .lst cols.length (cols.flatMap u8E), .agg [.int .i64 k0, .int .i64 k1, .int .i64 k2], .int .i64 ramp] σ) =
      some (.val (.lst (injOf plan cols k0 k1 k2 ramp).length ((injOf plan cols k0 k1 k2 ramp).flatMap intE)) σ) := by
  refine call_of T_ref09_Inject e_ref09_Inject rfl ?_
  have hc2 : cols.length = plan.length := by
    have := hk
    simp only [planOk, Bool.and_eq_true, decide_eq_true_eq] at this
    exact this.2.1
  simp [-List.length_flatMap, -List.map_take, e_ref09_Inject_r0, e_ref09_Inject_r1, e_ref09_Inject_r2, e_ref09_Inject_r3, e_ref09_Inject_r4, e_ref09_Inject_r5, e_ref09_Inject_r6, e_ref09_Inject_r7, e_ref09_Inject_r8, e_ref09_Inject_r10]
  refine WL.to (L_InjectR (σ := σ) hl hk hc0 plan.length 0 [] (by omega) rfl (by simp)) (by simp) (by simp) ?_
  rintro x e σ' ⟨rfl, h2, rfl⟩
  have hil : (injOf plan cols k0 k1 k2 ramp).length = plan.length := injL_len _ _ _ hc2
  have hdef : injL (keepOf k0 k1 k2) ramp plan cols none = injOf plan cols k0 k1 k2 ramp := rfl
  simp only [List.nil_append, List.drop_zero, List.getLast?_nil, hdef, ← hil] at h2 ⊢
  simp [-List.length_flatMap, -List.map_take, h2, e_ref09_Inject_r10]
  rw [frz_out (f := intE) (fun _ => rfl) (fun x => by simp) hσ rfl]
  simp

theorem law_Injects {plan cols : List Int} {k0 k1 k2 ramp : Int} (hc0 : ∀ c ∈ cols, 0 ≤ c) (hσ : σ ≠ []) :
    lim T (.call false i_law09_TremorInjects [.lst plan.length (plan.flatMap intE), .lst cols.length (cols.flatMap u8E), .agg [.int .i64 k0, .int .i64 k1, .int .i64 k2], .int .i64 ramp] σ) = some (.val (.bool true) σ) := by
  refine call_of T_law09_TremorInjects e_law09_TremorInjects rfl ?_
  by_cases a1 : 60 < plan.length ∧ plan.length ≤ 500
  · have a2 : (60 : Int) < plan.length := by omega
    have a3 : (plan.length : Int) ≤ 500 := by omega
    simp [-List.length_flatMap, -List.map_take, e_law09_TremorInjects_r0, e_law09_TremorInjects_r1, e_law09_TremorInjects_r2, e_law09_TremorInjects_r3, e_law09_TremorInjects_r4, e_law09_TremorInjects_r5, e_law09_TremorInjects_r6, e_law09_TremorInjects_r7, e_law09_TremorInjects_r8, e_law09_TremorInjects_r9, e_law09_TremorInjects_r10, e_law09_TremorInjects_r11, a2, a3, C_awake]
  by_cases b1 : 502 < plan.length
  · have a2 : (60 : Int) < plan.length := by omega
    have a3 : ¬ (plan.length : Int) ≤ 500 := by omega
    have a4 : (502 : Int) < plan.length := by omega
    simp [-List.length_flatMap, -List.map_take, e_law09_TremorInjects_r0, e_law09_TremorInjects_r1, e_law09_TremorInjects_r2, e_law09_TremorInjects_r3, e_law09_TremorInjects_r4, e_law09_TremorInjects_r5, e_law09_TremorInjects_r6, e_law09_TremorInjects_r7, e_law09_TremorInjects_r8, e_law09_TremorInjects_r9, e_law09_TremorInjects_r10, e_law09_TremorInjects_r11, a2, a3, a4, C_awake]
  have fin : ∀ (q1 q2 : Bool), (decide ((60 : Int) < plan.length)) = q1 → (decide ((plan.length : Int) ≤ 500)) = q2 → (q1 && q2) = false → ¬ (502 : Int) < plan.length → True := fun _ _ _ _ _ _ => trivial
  by_cases b2 : 502 < cols.length
  · have a5 : (502 : Int) < cols.length := by omega
    have a4 : ¬ (502 : Int) < plan.length := by omega
    by_cases a2 : (60 : Int) < plan.length
    · have a3 : ¬ (plan.length : Int) ≤ 500 := by omega
      simp [-List.length_flatMap, -List.map_take, e_law09_TremorInjects_r0, e_law09_TremorInjects_r1, e_law09_TremorInjects_r2, e_law09_TremorInjects_r3, e_law09_TremorInjects_r4, e_law09_TremorInjects_r5, e_law09_TremorInjects_r6, e_law09_TremorInjects_r7, e_law09_TremorInjects_r8, e_law09_TremorInjects_r9, e_law09_TremorInjects_r10, e_law09_TremorInjects_r11, a2, a3, a4, a5, C_awake]
    · simp [-List.length_flatMap, -List.map_take, e_law09_TremorInjects_r0, e_law09_TremorInjects_r1, e_law09_TremorInjects_r2, e_law09_TremorInjects_r3, e_law09_TremorInjects_r4, e_law09_TremorInjects_r5, e_law09_TremorInjects_r6, e_law09_TremorInjects_r7, e_law09_TremorInjects_r8, e_law09_TremorInjects_r9, e_law09_TremorInjects_r10, e_law09_TremorInjects_r11, a2, a4, a5, C_awake]
  have a5 : ¬ (502 : Int) < cols.length := by omega
  have a4 : ¬ (502 : Int) < plan.length := by omega
  have r1 : plan.length * 8 ≤ room := by unfold room; omega
  have r2 : cols.length ≤ room := by unfold room; omega
  have l1 := flat_len (f := intE) (w := 1) (fun _ => rfl) plan
  have l2 := flat_len (f := u8E) (w := 1) (fun _ => rfl) cols
  simp only [Nat.mul_one] at l1 l2
  have hP := fun σ (hσ : σ ≠ []) => @C_Inject σ plan cols k0 k1 k2 ramp (by omega) (by omega) hc0 hσ
  by_cases c0 : 500 < plan.length
  · have c0' : (500 : Int) < plan.length := by omega
    have a2 : (60 : Int) < plan.length := by omega
    have a3 : ¬ (plan.length : Int) ≤ 500 := by omega
    simp only [c0, if_true] at hP
    simp [-List.length_flatMap, -List.map_take, e_law09_TremorInjects_r0, e_law09_TremorInjects_r1, e_law09_TremorInjects_r2, e_law09_TremorInjects_r3, e_law09_TremorInjects_r4, e_law09_TremorInjects_r5, e_law09_TremorInjects_r6, e_law09_TremorInjects_r7, e_law09_TremorInjects_r8, e_law09_TremorInjects_r9, e_law09_TremorInjects_r10, e_law09_TremorInjects_r11, a2, a3, a4, a5, r1, r2, l1, l2, hP, c0', C_awake]
  have c0' : ¬ (500 : Int) < plan.length := by omega
  have a2 : ¬ (60 : Int) < plan.length := by omega
  simp only [c0, if_false] at hP
  have hR := fun σ => @C_RightPlan σ plan cols k0 k1 k2 ramp (by omega)
  cases c1 : planOk plan cols k0 k1 k2 ramp
  · simp only [c1, Bool.false_eq_true, if_false] at hP hR
    simp [-List.length_flatMap, -List.map_take, e_law09_TremorInjects_r0, e_law09_TremorInjects_r1, e_law09_TremorInjects_r2, e_law09_TremorInjects_r3, e_law09_TremorInjects_r4, e_law09_TremorInjects_r5, e_law09_TremorInjects_r6, e_law09_TremorInjects_r7, e_law09_TremorInjects_r8, e_law09_TremorInjects_r9, e_law09_TremorInjects_r10, e_law09_TremorInjects_r11, a2, a4, a5, r1, r2, l1, l2, hP, c0', hR, C_awake]
  simp only [c1, if_true] at hP hR
  have hI := fun σ (hσ : σ ≠ []) => @C_InjectR σ plan cols k0 k1 k2 ramp (by omega) c1 hc0 hσ
  have hil : (injOf plan cols k0 k1 k2 ramp).length = plan.length := injL_len _ _ _ (by
    have := c1
    simp only [planOk, Bool.and_eq_true, decide_eq_true_eq] at this
    exact this.2.1)
  have hE := fun σ => @C_ints σ (injOf plan cols k0 k1 k2 ramp) (by omega)
  simp [-List.length_flatMap, -List.map_take, e_law09_TremorInjects_r0, e_law09_TremorInjects_r1, e_law09_TremorInjects_r2, e_law09_TremorInjects_r3, e_law09_TremorInjects_r4, e_law09_TremorInjects_r5, e_law09_TremorInjects_r6, e_law09_TremorInjects_r7, e_law09_TremorInjects_r8, e_law09_TremorInjects_r9, e_law09_TremorInjects_r10, e_law09_TremorInjects_r11, a2, a4, a5, r1, r2, l1, l2, hP, c0', hR, hI, hE, C_awake]

theorem go_TremorInjects (x0 x1 x2 x3 : D) (t0 : (Ty.slice 1 tyI).hasV x0) (t1 : (Ty.slice 1 (.int .u8)).hasV x1) (t2 : (Ty.arr 3 tyI).hasV x2) (t3 : tyI.hasV x3) :
    ∃ σ', lim T (.call false i_law09_TremorInjects [x0, x1, x2, x3] [[]]) = some (.val (.bool true) σ') := by
  obtain ⟨l, rfl, _⟩ := rows_of (fun ds h => int_of h) t0
  obtain ⟨c, rfl, _, hc⟩ := rows_of (fun ds h => u8e_of h) t1
  obtain ⟨k0, k1, k2, rfl, _⟩ := arr3_of t2
  obtain ⟨r, rfl, _⟩ := i64_of t3
  exact ⟨_, law_Injects (fun a ha => (hc a ha).1) (by simp)⟩
end Go.Proofs.Yticpenoicajakaa
