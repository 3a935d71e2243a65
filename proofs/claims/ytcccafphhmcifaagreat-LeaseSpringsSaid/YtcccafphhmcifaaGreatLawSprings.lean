/-
  The law LeaseSprings answers true.
-/
import Derived.Test.YtcccafphhmcifaaGreatG5
import Derived.Test.YtcccafphhmcifaaGreatW
import Derived.Test.YtcccafphhmcifaaGreatW3
import Derived.Test.YtcccafphhmcifaaGreatTremTyK
set_option linter.unusedVariables false
set_option linter.unusedSimpArgs false
namespace Go.Proofs.YtcccafphhmcifaaGreat
open Go Go.Abs Go.Lease
variable {σ : Stack}

theorem law_Springs {l : List Sp} (hcl : l.length ≤ 9223372036854775807) {ts : List Int} {k : Int} : lim T (.call false i_law11_LeaseSprings [spsD l, .lst ts.length (ts.flatMap intE), .int .i64 k] [[]]) = some (.val (.bool true) [[]]) := by
  refine call_of T_law11_LeaseSprings e_law11_LeaseSprings rfl ?_
  have hF := fun σ => C_some (σ := σ) hcl
  simp only [spsD] at hF
  cases f1 : someB l
  · simp [-List.length_flatMap, -List.map_take, e_law11_LeaseSprings_r0, e_law11_LeaseSprings_r1, e_law11_LeaseSprings_r2, e_law11_LeaseSprings_r3, e_law11_LeaseSprings_r4, e_law11_LeaseSprings_r5, e_law11_LeaseSprings_r6, e_law11_LeaseSprings_r7, e_law11_LeaseSprings_r8, e_law11_LeaseSprings_r9, e_law11_LeaseSprings_r10, e_law11_LeaseSprings_r11, e_law11_LeaseSprings_r12, e_law11_LeaseSprings_r13, e_law11_LeaseSprings_r14, e_law11_LeaseSprings_r15, e_law11_LeaseSprings_r16, e_law11_LeaseSprings_r17, e_law11_LeaseSprings_r18, e_law11_LeaseSprings_r19, e_law11_LeaseSprings_r20, e_law11_LeaseSprings_r21, e_law11_LeaseSprings_r22, e_law11_LeaseSprings_r23, e_law11_LeaseSprings_r24, e_law11_LeaseSprings_r25, e_law11_LeaseSprings_r26, e_law11_LeaseSprings_r27, e_law11_LeaseSprings_r28, e_law11_LeaseSprings_r29, e_law11_LeaseSprings_r30, e_law11_LeaseSprings_r31, e_law11_LeaseSprings_r32, e_law11_LeaseSprings_r34, e_law11_LeaseSprings_r35, e_law11_LeaseSprings_r36, e_law11_LeaseSprings_r37, e_law11_LeaseSprings_r38, e_law11_LeaseSprings_r39, e_law11_LeaseSprings_r40, hF, f1, C_wakes]
  by_cases hb : ts.length ≤ 30
  rotate_left
  · have h1 : (30 : Int) < ts.length := by omega
    simp [-List.length_flatMap, -List.map_take, e_law11_LeaseSprings_r0, e_law11_LeaseSprings_r1, e_law11_LeaseSprings_r2, e_law11_LeaseSprings_r3, e_law11_LeaseSprings_r4, e_law11_LeaseSprings_r5, e_law11_LeaseSprings_r6, e_law11_LeaseSprings_r7, e_law11_LeaseSprings_r8, e_law11_LeaseSprings_r9, e_law11_LeaseSprings_r10, e_law11_LeaseSprings_r11, e_law11_LeaseSprings_r12, e_law11_LeaseSprings_r13, e_law11_LeaseSprings_r14, e_law11_LeaseSprings_r15, e_law11_LeaseSprings_r16, e_law11_LeaseSprings_r17, e_law11_LeaseSprings_r18, e_law11_LeaseSprings_r19, e_law11_LeaseSprings_r20, e_law11_LeaseSprings_r21, e_law11_LeaseSprings_r22, e_law11_LeaseSprings_r23, e_law11_LeaseSprings_r24, e_law11_LeaseSprings_r25, e_law11_LeaseSprings_r26, e_law11_LeaseSprings_r27, e_law11_LeaseSprings_r28, e_law11_LeaseSprings_r29, e_law11_LeaseSprings_r30, e_law11_LeaseSprings_r31, e_law11_LeaseSprings_r32, e_law11_LeaseSprings_r34, e_law11_LeaseSprings_r35, e_law11_LeaseSprings_r36, e_law11_LeaseSprings_r37, e_law11_LeaseSprings_r38, e_law11_LeaseSprings_r39, e_law11_LeaseSprings_r40, hF, f1, h1, C_wakes]
  have hb1 : ¬ (30 : Int) < ts.length := by omega
  have hc := someB_iff.1 f1
  have hC := fun σ (hσ : σ ≠ []) => C_Springs (σ := σ) hc hσ
  have hl := fun σ (hσ : σ ≠ []) => C_list (σ := σ) (l := ts) (by omega) hσ
  have hB := fun σ (hσ : σ ≠ []) => C_Behind (σ := σ) hc (ts := ts) (by omega) hσ
  have hH := fun σ (hσ : σ ≠ []) => C_Harmed (σ := σ) hc (ts := ts) (by omega) hσ
  have hR := fun σ => C_Room (σ := σ) hc (ts := ts) (by omega) (k := k)
  have hS := fun σ => C_RSprings (σ := σ) hc
  have hK := fun σ => C_checkS (σ := σ) hc
  unfold roomD at hR
  simp only [spsD] at hC hB hH hR hS hK
  cases c1 : spsOk l
  · have e1 : takE l ts = 1 := by simp [takE, c1]
    simp only [e1, show ¬ ((1 : Int) = 0) by decide, if_false] at hB hH hR
    simp only [c1, Bool.false_eq_true, if_false] at hS hK
    simp [-List.length_flatMap, -List.map_take, e_law11_LeaseSprings_r0, e_law11_LeaseSprings_r1, e_law11_LeaseSprings_r2, e_law11_LeaseSprings_r3, e_law11_LeaseSprings_r4, e_law11_LeaseSprings_r5, e_law11_LeaseSprings_r6, e_law11_LeaseSprings_r7, e_law11_LeaseSprings_r8, e_law11_LeaseSprings_r9, e_law11_LeaseSprings_r10, e_law11_LeaseSprings_r11, e_law11_LeaseSprings_r12, e_law11_LeaseSprings_r13, e_law11_LeaseSprings_r14, e_law11_LeaseSprings_r15, e_law11_LeaseSprings_r16, e_law11_LeaseSprings_r17, e_law11_LeaseSprings_r18, e_law11_LeaseSprings_r19, e_law11_LeaseSprings_r20, e_law11_LeaseSprings_r21, e_law11_LeaseSprings_r22, e_law11_LeaseSprings_r23, e_law11_LeaseSprings_r24, e_law11_LeaseSprings_r25, e_law11_LeaseSprings_r26, e_law11_LeaseSprings_r27, e_law11_LeaseSprings_r28, e_law11_LeaseSprings_r29, e_law11_LeaseSprings_r30, e_law11_LeaseSprings_r31, e_law11_LeaseSprings_r32, e_law11_LeaseSprings_r34, e_law11_LeaseSprings_r35, e_law11_LeaseSprings_r36, e_law11_LeaseSprings_r37, e_law11_LeaseSprings_r38, e_law11_LeaseSprings_r39, e_law11_LeaseSprings_r40, hF, f1, hb1, hC, hl, hB, hH, hR, hS, hK, C_wakes]
  have hT := fun σ => C_Takes (σ := σ) c1 (ts := ts) (by omega)
  simp only [spsD] at hT
  simp only [c1, if_true] at hS hK
  cases c2 : tkOk l ts
  · have e1 : takE l ts = 2 := by simp [takE, c1, c2]
    simp only [e1, show ¬ ((2 : Int) = 0) by decide, if_false] at hB hH hR
    simp [-List.length_flatMap, -List.map_take, e_law11_LeaseSprings_r0, e_law11_LeaseSprings_r1, e_law11_LeaseSprings_r2, e_law11_LeaseSprings_r3, e_law11_LeaseSprings_r4, e_law11_LeaseSprings_r5, e_law11_LeaseSprings_r6, e_law11_LeaseSprings_r7, e_law11_LeaseSprings_r8, e_law11_LeaseSprings_r9, e_law11_LeaseSprings_r10, e_law11_LeaseSprings_r11, e_law11_LeaseSprings_r12, e_law11_LeaseSprings_r13, e_law11_LeaseSprings_r14, e_law11_LeaseSprings_r15, e_law11_LeaseSprings_r16, e_law11_LeaseSprings_r17, e_law11_LeaseSprings_r18, e_law11_LeaseSprings_r19, e_law11_LeaseSprings_r20, e_law11_LeaseSprings_r21, e_law11_LeaseSprings_r22, e_law11_LeaseSprings_r23, e_law11_LeaseSprings_r24, e_law11_LeaseSprings_r25, e_law11_LeaseSprings_r26, e_law11_LeaseSprings_r27, e_law11_LeaseSprings_r28, e_law11_LeaseSprings_r29, e_law11_LeaseSprings_r30, e_law11_LeaseSprings_r31, e_law11_LeaseSprings_r32, e_law11_LeaseSprings_r34, e_law11_LeaseSprings_r35, e_law11_LeaseSprings_r36, e_law11_LeaseSprings_r37, e_law11_LeaseSprings_r38, e_law11_LeaseSprings_r39, e_law11_LeaseSprings_r40, hF, f1, hb1, hC, hl, hB, hH, hR, hS, hK, hT, c2, C_wakes]
  have e1 : takE l ts = 0 := by simp [takE, c1, c2]
  simp only [e1, if_true] at hB hH hR
  have hs1 := spsOk_iff.1 c1
  have ht1 := tkOk_iff.1 c2
  generalize hP : whichF (harmP ts) 0 l = P at *
  generalize hS' : whichF (harmS ts) 0 l = S at *
  have hPl : P.length ≤ 15 := by have := which_len (harmP ts) l 0; have := hc.1; rw [← hP]; omega
  have hSl : S.length ≤ 15 := by have := which_len (harmS ts) l 0; have := hc.1; rw [← hS']; omega
  have hIP := fun σ => C_ints (σ := σ) (a := P) (b := P) (by omega)
  have hIS := fun σ => C_ints (σ := σ) (a := S) (b := S) (by omega)
  have hz := fun (v w : Nat) => k_frz (f := intE) (w := 1) (fun _ => rfl) (fun x => by simp) (l := P) (j := 0) (v := v) (bs := [.cells v (P.flatMap intE), .cells w (S.flatMap intE)]) (σ := [[]]) (by simp) rfl
  have hz2 := fun (w : Nat) => k_frz (f := intE) (w := 1) (fun _ => rfl) (fun x => by simp) (l := S) (j := 1) (v := w) (bs := [.dead, .cells w (S.flatMap intE)]) (σ := [[]]) (by simp) rfl
  simp only [List.length_cons, List.length_nil, Nat.zero_add, List.set_cons_zero, List.set_cons_succ] at hz hz2
  have hPn : P = [] ↔ anyB l (harmP ts) = false := by
    rw [← hP, which_nil]
    constructor
    · intro h
      cases hA : anyB l (harmP ts)
      · rfl
      · obtain ⟨s, hs, h1⟩ := anyB_iff.1 hA
        rw [h s hs] at h1; cases h1
    · intro h s hs
      cases h1 : harmP ts s
      · rfl
      · have : anyB l (harmP ts) = true := anyB_iff.2 ⟨s, hs, h1⟩
        rw [h] at this; cases this
  by_cases q1 : 0 ≤ k ∧ k < ts.length
  · simp only [if_pos q1] at hR
    obtain ⟨n, rfl⟩ : ∃ n : Nat, k = n := ⟨k.toNat, by omega⟩
    have hn : n < ts.length := by omega
    obtain ⟨t, ht⟩ : ∃ x, ts[n]? = some x := ⟨_, List.getElem?_eq_getElem hn⟩
    have htb := ht1.2 t (List.mem_of_getElem? ht)
    have hte := (List.getElem?_eq_some_iff.1 ht).2
    have a1 := int_at ht
    have w1 := w64 (n := 1000000 - t) (by omega)
    rw [Int.toNat_natCast, getD_of ht] at hR
    have hn2 : ¬ (ts.length ≤ n) := by omega
    have hk0 : ¬ ((n : Int) < 0) := by omega
    cases hA : anyB l (harmP ts)
    · have hP0 := hPn.2 hA
      subst hP0
      have hno : ∀ s ∈ l, harmP ts s = false := which_nil.1 hP
      simp only [hA, Bool.false_eq_true, if_false] at hR
      simp [-List.length_flatMap, -List.map_take, e_law11_LeaseSprings_r0, e_law11_LeaseSprings_r1, e_law11_LeaseSprings_r2, e_law11_LeaseSprings_r3, e_law11_LeaseSprings_r4, e_law11_LeaseSprings_r5, e_law11_LeaseSprings_r6, e_law11_LeaseSprings_r7, e_law11_LeaseSprings_r8, e_law11_LeaseSprings_r9, e_law11_LeaseSprings_r10, e_law11_LeaseSprings_r11, e_law11_LeaseSprings_r12, e_law11_LeaseSprings_r13, e_law11_LeaseSprings_r14, e_law11_LeaseSprings_r15, e_law11_LeaseSprings_r16, e_law11_LeaseSprings_r17, e_law11_LeaseSprings_r18, e_law11_LeaseSprings_r19, e_law11_LeaseSprings_r20, e_law11_LeaseSprings_r21, e_law11_LeaseSprings_r22, e_law11_LeaseSprings_r23, e_law11_LeaseSprings_r24, e_law11_LeaseSprings_r25, e_law11_LeaseSprings_r26, e_law11_LeaseSprings_r27, e_law11_LeaseSprings_r28, e_law11_LeaseSprings_r29, e_law11_LeaseSprings_r30, e_law11_LeaseSprings_r31, e_law11_LeaseSprings_r32, e_law11_LeaseSprings_r34, e_law11_LeaseSprings_r35, e_law11_LeaseSprings_r36, e_law11_LeaseSprings_r37, e_law11_LeaseSprings_r38, e_law11_LeaseSprings_r39, e_law11_LeaseSprings_r40, hF, f1, hb1, hC, hl, hB, hH, hR, hS, hK, hT, c2, hn, a1, w1]
      refine WL.to (L_law (σ := [[]]) c1 c2 (k := n) (d9 := .lst 0 []) (d10 := .lst S.length (S.flatMap intE)) (d12 := .int .i64 (roomF ts n l (1000000 - t))) (d13 := .int .i64 0) rfl rfl rfl rfl l.length 0 0 0 (1000000 - t) (by omega) (by omega) (by omega)) (by simp [whichF]) (by simp [whichF]) ?_
      rintro x e σ' ⟨v, w, rfl, g1, g2, g9, g10, g12, g13, g15, g16, g17, rfl⟩
      rw [hP] at g15
      rw [hS'] at g16
      rw [List.drop_zero, rmL_room hn l _ hno] at g17
      simp only [List.length_cons, List.length_nil, Nat.zero_add] at g15 g16
      simp only [List.length_nil, List.flatMap_nil] at hz hIP
      simp [-List.length_flatMap, -List.map_take, e_law11_LeaseSprings_r34, e_law11_LeaseSprings_r36, e_law11_LeaseSprings_r38, e_law11_LeaseSprings_r40, g1, g2, g9, g10, g12, g13, g15, g16, g17, hP, hS', hz, hz2, hIP, hIS, hn, hn2, hk0, C_wakesDD]
    · have hP0 : ¬ P = [] := fun h => by rw [hPn.1 h] at hA; cases hA
      have hP1 : 0 < P.length := List.length_pos_iff.2 hP0
      simp only [hA, if_true] at hR
      simp [-List.length_flatMap, -List.map_take, e_law11_LeaseSprings_r0, e_law11_LeaseSprings_r1, e_law11_LeaseSprings_r2, e_law11_LeaseSprings_r3, e_law11_LeaseSprings_r4, e_law11_LeaseSprings_r5, e_law11_LeaseSprings_r6, e_law11_LeaseSprings_r7, e_law11_LeaseSprings_r8, e_law11_LeaseSprings_r9, e_law11_LeaseSprings_r10, e_law11_LeaseSprings_r11, e_law11_LeaseSprings_r12, e_law11_LeaseSprings_r13, e_law11_LeaseSprings_r14, e_law11_LeaseSprings_r15, e_law11_LeaseSprings_r16, e_law11_LeaseSprings_r17, e_law11_LeaseSprings_r18, e_law11_LeaseSprings_r19, e_law11_LeaseSprings_r20, e_law11_LeaseSprings_r21, e_law11_LeaseSprings_r22, e_law11_LeaseSprings_r23, e_law11_LeaseSprings_r24, e_law11_LeaseSprings_r25, e_law11_LeaseSprings_r26, e_law11_LeaseSprings_r27, e_law11_LeaseSprings_r28, e_law11_LeaseSprings_r29, e_law11_LeaseSprings_r30, e_law11_LeaseSprings_r31, e_law11_LeaseSprings_r32, e_law11_LeaseSprings_r34, e_law11_LeaseSprings_r35, e_law11_LeaseSprings_r36, e_law11_LeaseSprings_r37, e_law11_LeaseSprings_r38, e_law11_LeaseSprings_r39, e_law11_LeaseSprings_r40, hF, f1, hb1, hC, hl, hB, hH, hR, hS, hK, hT, c2, hn, a1, w1]
      refine WL.to (L_law (σ := [[]]) c1 c2 (k := n) (d9 := .lst P.length (P.flatMap intE)) (d10 := .lst S.length (S.flatMap intE)) (d12 := .int .i64 0) (d13 := .int .i64 9) rfl rfl rfl rfl l.length 0 0 0 (1000000 - t) (by omega) (by omega) (by omega)) (by simp [whichF]) (by simp [whichF]) ?_
      rintro x e σ' ⟨v, w, rfl, g1, g2, g9, g10, g12, g13, g15, g16, g17, rfl⟩
      rw [hP] at g15
      rw [hS'] at g16
      simp only [List.length_cons, List.length_nil, Nat.zero_add] at g15 g16
      simp [-List.length_flatMap, -List.map_take, e_law11_LeaseSprings_r34, e_law11_LeaseSprings_r36, e_law11_LeaseSprings_r38, e_law11_LeaseSprings_r39, g1, g2, g9, g10, g12, g13, g15, g16, g17, hP, hS', hz, hz2, hIP, hIS, hn, hn2, hk0, hP1, C_wakesDD]
  · simp only [if_neg q1] at hR
    by_cases k0 : 0 ≤ k
    · have k1 : ¬ k < ts.length := by omega
      have k2 : ¬ k < 0 := by omega
      have k3 : (ts.length : Int) ≤ k := by omega
      simp [-List.length_flatMap, -List.map_take, e_law11_LeaseSprings_r0, e_law11_LeaseSprings_r1, e_law11_LeaseSprings_r2, e_law11_LeaseSprings_r3, e_law11_LeaseSprings_r4, e_law11_LeaseSprings_r5, e_law11_LeaseSprings_r6, e_law11_LeaseSprings_r7, e_law11_LeaseSprings_r8, e_law11_LeaseSprings_r9, e_law11_LeaseSprings_r10, e_law11_LeaseSprings_r11, e_law11_LeaseSprings_r12, e_law11_LeaseSprings_r13, e_law11_LeaseSprings_r14, e_law11_LeaseSprings_r15, e_law11_LeaseSprings_r16, e_law11_LeaseSprings_r17, e_law11_LeaseSprings_r18, e_law11_LeaseSprings_r19, e_law11_LeaseSprings_r20, e_law11_LeaseSprings_r21, e_law11_LeaseSprings_r22, e_law11_LeaseSprings_r23, e_law11_LeaseSprings_r24, e_law11_LeaseSprings_r25, e_law11_LeaseSprings_r26, e_law11_LeaseSprings_r27, e_law11_LeaseSprings_r28, e_law11_LeaseSprings_r29, e_law11_LeaseSprings_r30, e_law11_LeaseSprings_r31, e_law11_LeaseSprings_r32, e_law11_LeaseSprings_r34, e_law11_LeaseSprings_r35, e_law11_LeaseSprings_r36, e_law11_LeaseSprings_r37, e_law11_LeaseSprings_r38, e_law11_LeaseSprings_r39, e_law11_LeaseSprings_r40, hF, f1, hb1, hC, hl, hB, hH, hR, hS, hK, hT, c2, k0, k1]
      refine WL.to (L_law (σ := [[]]) c1 c2 (k := k) (d9 := .lst P.length (P.flatMap intE)) (d10 := .lst S.length (S.flatMap intE)) (d12 := .int .i64 0) (d13 := .int .i64 2) rfl rfl rfl rfl l.length 0 0 0 1000000 (by omega) (by omega) (by omega)) (by simp [whichF]) (by simp [whichF]) ?_
      rintro x e σ' ⟨v, w, rfl, g1, g2, g9, g10, g12, g13, g15, g16, g17, rfl⟩
      rw [hP] at g15
      rw [hS'] at g16
      simp only [List.length_cons, List.length_nil, Nat.zero_add] at g15 g16
      simp [-List.length_flatMap, -List.map_take, e_law11_LeaseSprings_r34, e_law11_LeaseSprings_r36, e_law11_LeaseSprings_r37, g1, g2, g9, g10, g12, g13, g15, g16, g17, hP, hS', hz, hz2, hIP, hIS, k2, k3, C_wakesDD]
    · have k2 : k < 0 := by omega
      simp [-List.length_flatMap, -List.map_take, e_law11_LeaseSprings_r0, e_law11_LeaseSprings_r1, e_law11_LeaseSprings_r2, e_law11_LeaseSprings_r3, e_law11_LeaseSprings_r4, e_law11_LeaseSprings_r5, e_law11_LeaseSprings_r6, e_law11_LeaseSprings_r7, e_law11_LeaseSprings_r8, e_law11_LeaseSprings_r9, e_law11_LeaseSprings_r10, e_law11_LeaseSprings_r11, e_law11_LeaseSprings_r12, e_law11_LeaseSprings_r13, e_law11_LeaseSprings_r14, e_law11_LeaseSprings_r15, e_law11_LeaseSprings_r16, e_law11_LeaseSprings_r17, e_law11_LeaseSprings_r18, e_law11_LeaseSprings_r19, e_law11_LeaseSprings_r20, e_law11_LeaseSprings_r21, e_law11_LeaseSprings_r22, e_law11_LeaseSprings_r23, e_law11_LeaseSprings_r24, e_law11_LeaseSprings_r25, e_law11_LeaseSprings_r26, e_law11_LeaseSprings_r27, e_law11_LeaseSprings_r28, e_law11_LeaseSprings_r29, e_law11_LeaseSprings_r30, e_law11_LeaseSprings_r31, e_law11_LeaseSprings_r32, e_law11_LeaseSprings_r34, e_law11_LeaseSprings_r35, e_law11_LeaseSprings_r36, e_law11_LeaseSprings_r37, e_law11_LeaseSprings_r38, e_law11_LeaseSprings_r39, e_law11_LeaseSprings_r40, hF, f1, hb1, hC, hl, hB, hH, hR, hS, hK, hT, c2, k0]
      refine WL.to (L_law (σ := [[]]) c1 c2 (k := k) (d9 := .lst P.length (P.flatMap intE)) (d10 := .lst S.length (S.flatMap intE)) (d12 := .int .i64 0) (d13 := .int .i64 2) rfl rfl rfl rfl l.length 0 0 0 1000000 (by omega) (by omega) (by omega)) (by simp [whichF]) (by simp [whichF]) ?_
      rintro x e σ' ⟨v, w, rfl, g1, g2, g9, g10, g12, g13, g15, g16, g17, rfl⟩
      rw [hP] at g15
      rw [hS'] at g16
      simp only [List.length_cons, List.length_nil, Nat.zero_add] at g15 g16
      simp [-List.length_flatMap, -List.map_take, e_law11_LeaseSprings_r34, e_law11_LeaseSprings_r36, e_law11_LeaseSprings_r37, g1, g2, g9, g10, g12, g13, g15, g16, g17, hP, hS', hz, hz2, hIP, hIS, k2, C_wakesDD]
theorem rows_i64 {ds : List D} (h : (Ty.int .i64).has ds) : ∃ x : Int, ds = intE x ∧ (-9223372036854775808 ≤ x ∧ x ≤ 9223372036854775807) := by
  obtain ⟨n, rfl, hw⟩ := h
  exact ⟨n, rfl, wf_i64 hw⟩
theorem rg_of {ds : List D} (h : (Ty.struct [.int .i64, .int .i64]).has ds) : ∃ x : Rg, ds = x.enc ∧ True := by
  obtain ⟨_, _, rfl, ⟨f, rfl, _⟩, _, _, rfl, ⟨t, rfl, _⟩, rfl⟩ := h
  exact ⟨⟨f, t⟩, rfl, trivial⟩
theorem sp_of {ds : List D} (h : (Ty.struct [.int .i64, .int .i64, .slice 2 (.struct [.int .i64, .int .i64])]).has ds) : ∃ x : Sp, ds = x.enc ∧ True := by
  obtain ⟨_, _, rfl, ⟨f, rfl, _⟩, _, _, rfl, ⟨t, rfl, _⟩, _, _, rfl, hs, rfl⟩ := h
  obtain ⟨d, rfl⟩ := slice_one hs
  obtain ⟨l, rfl, _, _⟩ := rows_of (fun ds h => rg_of h) hs
  exact ⟨⟨f, t, l⟩, rfl, trivial⟩
theorem go_LeaseSprings (x0 x1 x2 : D) (t0 : (Ty.slice 3 (.struct [.int .i64, .int .i64, .slice 2 (.struct [.int .i64, .int .i64])])).hasV x0) (t1 : (Ty.slice 1 (.int .i64)).hasV x1) (t2 : (Ty.int .i64).hasV x2) :
    ∃ σ', lim T (.call false i_law11_LeaseSprings [x0, x1, x2] [[]]) = some (.val (.bool true) σ') := by
  obtain ⟨l, rfl, hl, _⟩ := rows_of (fun ds h => sp_of h) t0
  obtain ⟨ts, rfl, _, _⟩ := rows_of (fun ds h => rows_i64 h) t1
  obtain ⟨k, rfl, hk⟩ := i64_of t2
  exact ⟨_, law_Springs (by unfold maxLen at hl; omega)⟩
end Go.Proofs.YtcccafphhmcifaaGreat
