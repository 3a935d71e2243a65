/-
  Springs of layer 11: the document's words.
-/
import Derived.Test.YtcccafphhmcifaaG3
set_option linter.unusedVariables false
set_option linter.unusedSimpArgs false
namespace Go.Proofs.Ytcccafphhmcifaa
open Go Go.Abs Go.Lease
variable {σ : Stack}

@[simp] def spO (s : Sp) : D := .own 0 [.int .i64 s.flow, .int .i64 s.least, .lst s.l.length (s.l.flatMap Rg.enc)]
theorem rgOk_ref {r : Rg} : (inn r.lo 0 1000 && (inn r.hi 0 1000 && !decide (r.hi < r.lo))) = rgOk r := by
  rw [Bool.eq_iff_iff]
  simp only [Bool.and_eq_true, inn_iff, Bool.not_eq_true', decide_eq_false_iff_not, rgOk_iff]
  omega
theorem L_RSp2 {l : List Sp} {j : Nat} {s : Sp} (hs : s.l.length ≤ 25) : ∀ (m i : Nat), i + m = s.l.length →
    WL T [0, 3, 4, 5] false f_ref11_Springs_l13 [(0, spsD l), (3, .int .i64 j), (4, spO s), (5, .int .i64 i)] σ
      (fun x e σ' => σ' = σ ∧ if allB (s.l.drop i) rgOk then x = .exit 2 ∧ get e 0 = spsD l ∧ get e 3 = .int .i64 j else x = .ret ∧ get e 2 = .bool false)
  | 0, i, hi => by
    refine WL_step e_ref11_Springs_l13 ?_
    have h1 : ¬ i < s.l.length := by omega
    have h2 : s.l.drop i = [] := List.drop_eq_nil_of_le (by omega)
    rw [h2]
    simp [-List.length_flatMap, -List.map_take, e_ref11_Springs_r0, e_ref11_Springs_r1, e_ref11_Springs_r2, e_ref11_Springs_r3, e_ref11_Springs_r4, e_ref11_Springs_r5, e_ref11_Springs_r6, e_ref11_Springs_r7, e_ref11_Springs_r8, e_ref11_Springs_r9, e_ref11_Springs_r10, e_ref11_Springs_r11, e_ref11_Springs_r12, e_ref11_Springs_r14, e_ref11_Springs_r16, h1, allB_nil]
  | m + 1, i, hi => by
    refine WL_step e_ref11_Springs_l13 ?_
    have h1 : i < s.l.length := by omega
    obtain ⟨r, hx⟩ : ∃ x, s.l[i]? = some x := ⟨_, List.getElem?_eq_getElem h1⟩
    have a1 := rg_at hx
    have w1 := wnext h1 (by omega)
    have ih := L_RSp2 (l := l) (j := j) hs m (i + 1) (by omega)
    rw [dropS hx, allB_cons, ← rgOk_ref]
    cases c1 : inn r.lo 0 1000
    · simp [-List.length_flatMap, -List.map_take, e_ref11_Springs_r0, e_ref11_Springs_r1, e_ref11_Springs_r2, e_ref11_Springs_r3, e_ref11_Springs_r4, e_ref11_Springs_r5, e_ref11_Springs_r6, e_ref11_Springs_r7, e_ref11_Springs_r8, e_ref11_Springs_r9, e_ref11_Springs_r10, e_ref11_Springs_r11, e_ref11_Springs_r12, e_ref11_Springs_r14, e_ref11_Springs_r16, h1, a1, w1, D_In, c1]
    cases c2 : inn r.hi 0 1000
    · simp [-List.length_flatMap, -List.map_take, e_ref11_Springs_r0, e_ref11_Springs_r1, e_ref11_Springs_r2, e_ref11_Springs_r3, e_ref11_Springs_r4, e_ref11_Springs_r5, e_ref11_Springs_r6, e_ref11_Springs_r7, e_ref11_Springs_r8, e_ref11_Springs_r9, e_ref11_Springs_r10, e_ref11_Springs_r11, e_ref11_Springs_r12, e_ref11_Springs_r14, e_ref11_Springs_r16, h1, a1, w1, D_In, c1, c2]
    by_cases c3 : r.hi < r.lo
    · simp [-List.length_flatMap, -List.map_take, e_ref11_Springs_r0, e_ref11_Springs_r1, e_ref11_Springs_r2, e_ref11_Springs_r3, e_ref11_Springs_r4, e_ref11_Springs_r5, e_ref11_Springs_r6, e_ref11_Springs_r7, e_ref11_Springs_r8, e_ref11_Springs_r9, e_ref11_Springs_r10, e_ref11_Springs_r11, e_ref11_Springs_r12, e_ref11_Springs_r14, e_ref11_Springs_r16, h1, a1, w1, D_In, c1, c2, c3]
    · simp [-List.length_flatMap, -List.map_take, e_ref11_Springs_r0, e_ref11_Springs_r1, e_ref11_Springs_r2, e_ref11_Springs_r3, e_ref11_Springs_r4, e_ref11_Springs_r5, e_ref11_Springs_r6, e_ref11_Springs_r7, e_ref11_Springs_r8, e_ref11_Springs_r9, e_ref11_Springs_r10, e_ref11_Springs_r11, e_ref11_Springs_r12, e_ref11_Springs_r14, e_ref11_Springs_r16, h1, a1, w1, D_In, c1, c2, c3]
      refine WL.to ih (by simp) rfl fun x e σ hh => ?_
      simpa [c1, c2, c3] using hh
def refSp (w : Nat) (s : Sp) : Bool := inn s.flow 0 1000000000 && (inn s.least 0 1000000000 && (decide (s.l.length = w) && (inn s.l.length 1 20 && allB s.l rgOk)))
theorem L_RSp {l : List Sp} (hc : Some15 l) (hl : 1 ≤ (l.length : Int)) : ∀ (m i : Nat), i + m = l.length →
    WL T [0, 3] false f_ref11_Springs_l15 [(0, spsD l), (3, .int .i64 i)] σ
      (fun x e σ' => σ' = σ ∧ if allB (l.drop i) (refSp (wid l)) then x = .exit 0 else x = .ret ∧ get e 2 = .bool false)
  | 0, i, hi => by
    refine WL_step e_ref11_Springs_l15 ?_
    have h1 : ¬ i < l.length := by omega
    have h2 : l.drop i = [] := List.drop_eq_nil_of_le (by omega)
    rw [h2]
    simp [-List.length_flatMap, -List.map_take, e_ref11_Springs_r0, e_ref11_Springs_r1, e_ref11_Springs_r2, e_ref11_Springs_r3, e_ref11_Springs_r4, e_ref11_Springs_r5, e_ref11_Springs_r6, e_ref11_Springs_r7, e_ref11_Springs_r8, e_ref11_Springs_r9, e_ref11_Springs_r10, e_ref11_Springs_r11, e_ref11_Springs_r12, e_ref11_Springs_r14, e_ref11_Springs_r16, h1, allB_nil]
  | m + 1, i, hi => by
    refine WL_step e_ref11_Springs_l15 ?_
    have hll := hc.1
    have h1 : i < l.length := by omega
    have hl0 : 0 < l.length := by omega
    obtain ⟨s0, l', hL, h0, hw⟩ := sp_hd hl
    obtain ⟨s, hx⟩ : ∃ x, l[i]? = some x := ⟨_, List.getElem?_eq_getElem h1⟩
    have hs := hc.2 s (List.mem_of_getElem? hx)
    have a1 := sp_at hx
    have w1 := wnext h1 (by omega)
    have ih := L_RSp hc hl m (i + 1) (by omega)
    rw [dropS hx, allB_cons]
    generalize hG : allB (l.drop (i + 1)) (refSp (wid l)) = G at *
    rw [hw, refSp]
    clear hL hw
    cases c1 : inn s.flow 0 1000000000
    · simp [-List.length_flatMap, -List.map_take, e_ref11_Springs_r0, e_ref11_Springs_r1, e_ref11_Springs_r2, e_ref11_Springs_r3, e_ref11_Springs_r4, e_ref11_Springs_r5, e_ref11_Springs_r6, e_ref11_Springs_r7, e_ref11_Springs_r8, e_ref11_Springs_r9, e_ref11_Springs_r10, e_ref11_Springs_r11, e_ref11_Springs_r12, e_ref11_Springs_r14, e_ref11_Springs_r16, h1, a1, w1, D_In, c1]
    cases c2 : inn s.least 0 1000000000
    · simp [-List.length_flatMap, -List.map_take, e_ref11_Springs_r0, e_ref11_Springs_r1, e_ref11_Springs_r2, e_ref11_Springs_r3, e_ref11_Springs_r4, e_ref11_Springs_r5, e_ref11_Springs_r6, e_ref11_Springs_r7, e_ref11_Springs_r8, e_ref11_Springs_r9, e_ref11_Springs_r10, e_ref11_Springs_r11, e_ref11_Springs_r12, e_ref11_Springs_r14, e_ref11_Springs_r16, h1, a1, w1, D_In, c1, c2]
    by_cases c3 : s.l.length = s0.l.length
    rotate_left
    · have c3' : ¬ (s.l.length : Int) = s0.l.length := by omega
      simp [-List.length_flatMap, -List.map_take, e_ref11_Springs_r0, e_ref11_Springs_r1, e_ref11_Springs_r2, e_ref11_Springs_r3, e_ref11_Springs_r4, e_ref11_Springs_r5, e_ref11_Springs_r6, e_ref11_Springs_r7, e_ref11_Springs_r8, e_ref11_Springs_r9, e_ref11_Springs_r10, e_ref11_Springs_r11, e_ref11_Springs_r12, e_ref11_Springs_r14, e_ref11_Springs_r16, h1, hl0, a1, w1, D_In, c1, c2, c3, c3', h0]
    rw [← c3] at h0
    cases c4 : inn s.l.length 1 20
    · simp [-List.length_flatMap, -List.map_take, e_ref11_Springs_r0, e_ref11_Springs_r1, e_ref11_Springs_r2, e_ref11_Springs_r3, e_ref11_Springs_r4, e_ref11_Springs_r5, e_ref11_Springs_r6, e_ref11_Springs_r7, e_ref11_Springs_r8, e_ref11_Springs_r9, e_ref11_Springs_r10, e_ref11_Springs_r11, e_ref11_Springs_r12, e_ref11_Springs_r14, e_ref11_Springs_r16, h1, hl0, a1, w1, D_In, c1, c2, c4, h0, ← c3]
    simp [-List.length_flatMap, -List.map_take, e_ref11_Springs_r0, e_ref11_Springs_r1, e_ref11_Springs_r2, e_ref11_Springs_r3, e_ref11_Springs_r4, e_ref11_Springs_r5, e_ref11_Springs_r6, e_ref11_Springs_r7, e_ref11_Springs_r8, e_ref11_Springs_r9, e_ref11_Springs_r10, e_ref11_Springs_r11, e_ref11_Springs_r12, e_ref11_Springs_r14, e_ref11_Springs_r16, h1, hl0, a1, w1, D_In, c1, c2, c4, h0, ← c3]
    refine WL.to (L_RSp2 (σ := σ) (l := l) (j := i) hs s.l.length 0 (by omega)) (by simp) rfl ?_
    rintro x e σ' ⟨rfl, hh⟩
    rw [List.drop_zero] at hh
    cases c5 : allB s.l rgOk
    · rw [c5] at hh
      simp only [Bool.false_eq_true, if_false] at hh
      obtain ⟨rfl, g2⟩ := hh
      simp [g2]
    · rw [c5] at hh
      simp only [if_true] at hh
      obtain ⟨rfl, g0, g3⟩ := hh
      simp [-List.length_flatMap, -List.map_take, e_ref11_Springs_r14, g0, g3, w1]
      refine WL.to ih (by simp) rfl fun x e σ hh => ?_
      simpa [c1, c2, c4, c5, ← c3] using hh
theorem ref_sps {l : List Sp} (hl : 1 ≤ (l.length : Int)) : allB l (refSp (wid l)) = (inn (wid l) 1 20 && allB l (spOk (wid l))) := by
  rw [Bool.eq_iff_iff]
  simp only [Bool.and_eq_true, allB_iff, refSp, spOk, decide_eq_true_eq]
  constructor
  · intro h
    refine ⟨?_, fun s hs => ⟨(h s hs).1, (h s hs).2.1, (h s hs).2.2.1, (h s hs).2.2.2.2⟩⟩
    obtain ⟨s0, l', hL, h0, hw⟩ := sp_hd hl
    have := h s0 (by rw [hL]; simp)
    rw [hw]
    exact this.2.2.2.1
  · rintro ⟨h1, h2⟩ s hs
    have h3 := h2 s hs
    refine ⟨h3.1, h3.2.1, h3.2.2.1, ?_, h3.2.2.2⟩
    rw [h3.2.2.1]
    exact h1
theorem C_RSprings {l : List Sp} (hc : Some15 l) : lim T (.call false i_ref11_Springs [spsD l] σ) = some (.val (.bool (spsOk l)) σ) := by
  refine call_of T_ref11_Springs e_ref11_Springs rfl ?_
  by_cases h1 : (l.length : Int) < 1
  · have c1 : inn l.length 1 10 = false := inn_no (by omega)
    simp [-List.length_flatMap, -List.map_take, e_ref11_Springs_r0, e_ref11_Springs_r1, e_ref11_Springs_r2, e_ref11_Springs_r3, e_ref11_Springs_r4, e_ref11_Springs_r5, e_ref11_Springs_r6, e_ref11_Springs_r7, e_ref11_Springs_r8, e_ref11_Springs_r9, e_ref11_Springs_r10, e_ref11_Springs_r11, e_ref11_Springs_r12, e_ref11_Springs_r14, e_ref11_Springs_r16, h1, spsOk, c1]
  by_cases h2 : (10 : Int) < l.length
  · have c1 : inn l.length 1 10 = false := inn_no (by omega)
    simp [-List.length_flatMap, -List.map_take, e_ref11_Springs_r0, e_ref11_Springs_r1, e_ref11_Springs_r2, e_ref11_Springs_r3, e_ref11_Springs_r4, e_ref11_Springs_r5, e_ref11_Springs_r6, e_ref11_Springs_r7, e_ref11_Springs_r8, e_ref11_Springs_r9, e_ref11_Springs_r10, e_ref11_Springs_r11, e_ref11_Springs_r12, e_ref11_Springs_r14, e_ref11_Springs_r16, h1, h2, spsOk, c1]
  have c1 : inn l.length 1 10 = true := inn_iff.2 (by omega)
  simp [-List.length_flatMap, -List.map_take, e_ref11_Springs_r0, e_ref11_Springs_r1, e_ref11_Springs_r2, e_ref11_Springs_r3, e_ref11_Springs_r4, e_ref11_Springs_r5, e_ref11_Springs_r6, e_ref11_Springs_r7, e_ref11_Springs_r8, e_ref11_Springs_r9, e_ref11_Springs_r10, e_ref11_Springs_r11, e_ref11_Springs_r12, e_ref11_Springs_r14, e_ref11_Springs_r16, h1, h2]
  refine WL.to (L_RSp (σ := [] :: σ) hc (by omega) l.length 0 (by omega)) (by simp) rfl ?_
  rintro x e σ' ⟨rfl, hh⟩
  rw [List.drop_zero, ref_sps (by omega)] at hh
  cases c2 : inn (wid l) 1 20 && allB l (spOk (wid l))
  · rw [c2] at hh
    simp only [Bool.false_eq_true, if_false] at hh
    obtain ⟨rfl, g2⟩ := hh
    simp [g2, spsOk, c1, c2]
  · rw [c2] at hh
    simp only [if_true] at hh
    subst hh
    simp [-List.length_flatMap, -List.map_take, e_ref11_Springs_r16, spsOk, c1, c2]
theorem L_Takes {l : List Sp} {ts : List Int} (hl : ts.length ≤ 1000) : ∀ (m i : Nat), i + m = ts.length →
    WL T [0, 1, 5] false f_ref11_Takes_l6 [(0, spsD l), (1, .lst ts.length (ts.flatMap intE)), (5, .int .i64 i)] σ
      (fun x e σ' => σ' = σ ∧ if allB (ts.drop i) (fun n => inn n 0 1000000) then x = .exit 0 ∧ get e 0 = spsD l ∧ get e 1 = .lst ts.length (ts.flatMap intE) else x = .ret ∧ get e 4 = .bool false)
  | 0, i, hi => by
    refine WL_step e_ref11_Takes_l6 ?_
    have h1 : ¬ i < ts.length := by omega
    have h2 : ts.drop i = [] := List.drop_eq_nil_of_le (by omega)
    rw [h2]
    simp [-List.length_flatMap, -List.map_take, e_ref11_Takes_r0, e_ref11_Takes_r1, e_ref11_Takes_r2, e_ref11_Takes_r3, e_ref11_Takes_r4, e_ref11_Takes_r5, e_ref11_Takes_r7, h1, allB_nil]
  | m + 1, i, hi => by
    refine WL_step e_ref11_Takes_l6 ?_
    have h1 : i < ts.length := by omega
    obtain ⟨x, hx⟩ : ∃ x, ts[i]? = some x := ⟨_, List.getElem?_eq_getElem h1⟩
    have a1 := int_at hx
    have w1 := wnext h1 (by omega)
    have ih := L_Takes (l := l) hl m (i + 1) (by omega)
    rw [dropS hx, allB_cons]
    cases h2 : inn x 0 1000000
    · simp [-List.length_flatMap, -List.map_take, e_ref11_Takes_r0, e_ref11_Takes_r1, e_ref11_Takes_r2, e_ref11_Takes_r3, e_ref11_Takes_r4, e_ref11_Takes_r5, e_ref11_Takes_r7, h1, a1, w1, D_In, h2]
    · simp [-List.length_flatMap, -List.map_take, e_ref11_Takes_r0, e_ref11_Takes_r1, e_ref11_Takes_r2, e_ref11_Takes_r3, e_ref11_Takes_r4, e_ref11_Takes_r5, e_ref11_Takes_r7, h1, a1, w1, D_In, h2]
      exact WL.to ih (by simp) rfl fun x e σ hh => by simpa [h2] using hh
theorem C_Takes {l : List Sp} (h : spsOk l = true) {ts : List Int} (hl : ts.length ≤ 1000) : lim T (.call false i_ref11_Takes [spsD l, .lst ts.length (ts.flatMap intE)] σ) = some (.val (.bool (tkOk l ts)) σ) := by
  refine call_of T_ref11_Takes e_ref11_Takes rfl ?_
  have hs1 := spsOk_iff.1 h
  obtain ⟨s0, l', hL, h0, hw⟩ := sp_hd hs1.1.1
  have hl' : 0 < l.length := by omega
  simp [-List.length_flatMap, -List.map_take, e_ref11_Takes_r0, e_ref11_Takes_r1, e_ref11_Takes_r2, e_ref11_Takes_r3, e_ref11_Takes_r4, e_ref11_Takes_r5, e_ref11_Takes_r7]
  refine WL.to (L_Takes (σ := [] :: σ) (l := l) hl ts.length 0 (by omega)) (by simp) rfl ?_
  rintro x e σ' ⟨rfl, hh⟩
  rw [List.drop_zero] at hh
  unfold tkOk
  rw [hw]
  cases h2 : allB ts (fun n => inn n 0 1000000)
  · rw [h2] at hh
    simp only [Bool.false_eq_true, if_false] at hh
    obtain ⟨rfl, g4⟩ := hh
    simp [g4]
  · rw [h2] at hh
    simp only [if_true] at hh
    obtain ⟨rfl, g1, g2⟩ := hh
    by_cases h3 : ts.length = s0.l.length
    · simp [-List.length_flatMap, -List.map_take, e_ref11_Takes_r7, g1, g2, h0, hl', ← h3]
    · have h4 : ¬ (ts.length : Int) = s0.l.length := by omega
      simp [-List.length_flatMap, -List.map_take, e_ref11_Takes_r7, g1, g2, h0, hl', h3, h4]
end Go.Proofs.Ytcccafphhmcifaa
