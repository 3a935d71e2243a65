/-
  Programmes of layer 11: right tables, what they show, by the document's words.
-/
import Derived.Test.YtcccafphhmcifaaGreatE9
set_option linter.unusedVariables false
set_option linter.unusedSimpArgs false
namespace Go.Proofs.YtcccafphhmcifaaGreat
open Go Go.Abs Go.Lease
variable {σ : Stack}

/-- Rungs one by one, behind the one ahead. -/
def rgR (p : Option Rn) : List Rn → Bool
  | [] => true
  | r :: l => decide (0 ≤ r.u) && (rungOk r && ((match p with | none => true | some q => decide (q.u < r.u) && decide (r.c < q.c)) && rgR (some r) l))
theorem rgR_iff : ∀ {l : List Rn} {p : Option Rn}, rgR p l = true ↔ (∀ r ∈ l, 0 ≤ r.u ∧ (0 ≤ r.c ∧ r.c ≤ never)) ∧ steps l = true ∧ (∀ q r, p = some q → l.head? = some r → q.u < r.u ∧ r.c < q.c)
  | [], p => by simp [rgR, steps]
  | [r], p => by
    cases p <;> simp [rgR, steps, rungOk, inn]
    omega
  | r :: s :: l, p => by
    have ih := rgR_iff (l := s :: l) (p := some r)
    have e : rgR p (r :: s :: l) = (decide (0 ≤ r.u) && (rungOk r && ((match p with | none => true | some q => decide (q.u < r.u) && decide (r.c < q.c)) && rgR (some r) (s :: l)))) := rfl
    rw [e]
    simp only [Bool.and_eq_true, decide_eq_true_eq, ih, rungOk, inn_iff, steps, List.head?_cons, Option.some.injEq]
    constructor
    · rintro ⟨h1, h2, h3, h4, h5, h6⟩
      refine ⟨fun x hx => ?_, ⟨(h6 r s rfl rfl).1, (h6 r s rfl rfl).2, h5⟩, fun q r' hq hr => ?_⟩
      · rcases List.mem_cons.1 hx with rfl | hx
        · exact ⟨h1, h2⟩
        · exact h4 x hx
      · subst hq hr
        simpa using h3
    · rintro ⟨h1, ⟨h2, h3, h4⟩, h5⟩
      refine ⟨(h1 r (by simp)).1, (h1 r (by simp)).2, ?_, fun x hx => h1 x (by simp [hx]), h4, fun q r' hq hr => by subst hq hr; exact ⟨h2, h3⟩⟩
      cases p with
      | none => rfl
      | some q => simpa using h5 q r rfl rfl
theorem rightR {l : List Rn} (h1 : 1 ≤ (l.length : Int) ∧ (l.length : Int) ≤ 70000) (h2 : (l.getLastD ⟨-1, 0⟩).u = held) : rgR none l = rightL l := by
  have hne : l ≠ [] := by rintro rfl; simp at h1
  rw [Bool.eq_iff_iff, rightL_iff, rgR_iff]
  constructor
  · rintro ⟨h3, h4, _⟩
    refine ⟨fun r hr => (h3 r hr).2, h4, h1, ?_, h2⟩
    cases l with
    | nil => exact absurd rfl hne
    | cons r l => exact (h3 r (by simp)).1
  · intro h
    have hr : rightL l = true := rightL_iff.2 h
    exact ⟨fun r hm => ⟨(right_mem hr r hm).1.1, (right_mem hr r hm).2⟩, h.2.1, fun q r hq => by cases hq⟩
/-- What stands ahead of a rung. -/
def prevR (l : List Rn) (i : Nat) : Option Rn := if i = 0 then none else l[i - 1]?
theorem L_rt1 {p : Pg} {t : List (List Rn)} {y : Nat} {l : List Rn} (hl : l.length ≤ 100000) : ∀ (m i : Nat), i + m = l.length →
    WL T [1, 2, 5, 6, 7] false f_ref11_RightTable_l13 [(1, .lst t.length (t.flatMap ladE)), (2, .cref p.enc), (5, .int .i64 y), (6, .lst l.length (l.flatMap Rn.enc)), (7, .int .i64 i)] σ
      (fun x e σ' => σ' = σ ∧ if rgR (prevR l i) (l.drop i) then x = .exit 2 ∧ get e 1 = .lst t.length (t.flatMap ladE) ∧ get e 2 = .cref p.enc ∧ get e 5 = .int .i64 y else x = .ret ∧ get e 4 = .bool false)
  | 0, i, hi => by
    refine WL_step e_ref11_RightTable_l13 ?_
    have h1 : ¬ i < l.length := by omega
    have h2 : l.drop i = [] := List.drop_eq_nil_of_le (by omega)
    rw [h2]
    simp [-List.length_flatMap, -List.map_take, e_ref11_RightTable_r0, e_ref11_RightTable_r1, e_ref11_RightTable_r2, e_ref11_RightTable_r3, e_ref11_RightTable_r4, e_ref11_RightTable_r5, e_ref11_RightTable_r6, e_ref11_RightTable_r7, e_ref11_RightTable_r8, e_ref11_RightTable_r9, e_ref11_RightTable_r10, e_ref11_RightTable_r11, e_ref11_RightTable_r12, e_ref11_RightTable_r14, e_ref11_RightTable_r16, e_ref11_RightTable_r17, e_ref11_RightTable_r18, e_ref11_RightTable_r19, e_ref11_RightTable_r20, e_ref11_RightTable_r21, e_ref11_RightTable_r22, e_ref11_RightTable_r23, e_ref11_RightTable_r24, e_ref11_RightTable_r25, e_ref11_RightTable_r26, e_ref11_RightTable_r27, e_ref11_RightTable_r28, e_ref11_RightTable_r29, e_ref11_RightTable_r31, e_ref11_RightTable_r33, e_ref11_RightTable_r35, h1, rgR]
  | m + 1, i, hi => by
    refine WL_step e_ref11_RightTable_l13 ?_
    have h1 : i < l.length := by omega
    obtain ⟨r, hx⟩ : ∃ x, l[i]? = some x := ⟨_, List.getElem?_eq_getElem h1⟩
    have a1 := rn_dr hx
    have a1' : (l.flatMap Rn.enc).drop (i * 2 + 1) = .int .i64 r.c :: (l.flatMap Rn.enc).drop (i * 2 + 2) := by rw [← List.drop_drop, a1]; rfl
    have w1 := wnext h1 (by omega)
    have ih := L_rt1 (p := p) (t := t) (y := y) hl m (i + 1) (by omega)
    have hpv : prevR l (i + 1) = some r := by unfold prevR; simp [hx]
    rw [hpv] at ih
    rw [dropS hx]
    have e : rgR (prevR l i) (r :: l.drop (i + 1)) = (decide (0 ≤ r.u) && (rungOk r && ((match prevR l i with | none => true | some q => decide (q.u < r.u) && decide (r.c < q.c)) && rgR (some r) (l.drop (i + 1))))) := rfl
    rw [e]
    generalize rgR (some r) (l.drop (i + 1)) = G at *
    by_cases c1 : r.u < 0
    · have c1' : ¬ 0 ≤ r.u := by omega
      simp [-List.length_flatMap, -List.map_take, e_ref11_RightTable_r0, e_ref11_RightTable_r1, e_ref11_RightTable_r2, e_ref11_RightTable_r3, e_ref11_RightTable_r4, e_ref11_RightTable_r5, e_ref11_RightTable_r6, e_ref11_RightTable_r7, e_ref11_RightTable_r8, e_ref11_RightTable_r9, e_ref11_RightTable_r10, e_ref11_RightTable_r11, e_ref11_RightTable_r12, e_ref11_RightTable_r14, e_ref11_RightTable_r16, e_ref11_RightTable_r17, e_ref11_RightTable_r18, e_ref11_RightTable_r19, e_ref11_RightTable_r20, e_ref11_RightTable_r21, e_ref11_RightTable_r22, e_ref11_RightTable_r23, e_ref11_RightTable_r24, e_ref11_RightTable_r25, e_ref11_RightTable_r26, e_ref11_RightTable_r27, e_ref11_RightTable_r28, e_ref11_RightTable_r29, e_ref11_RightTable_r31, e_ref11_RightTable_r33, e_ref11_RightTable_r35, h1, a1, a1', c1, c1']
    have c1' : 0 ≤ r.u := by omega
    cases c2 : inn r.c 0 1000000000000
    · have c2' : rungOk r = false := c2
      simp [-List.length_flatMap, -List.map_take, e_ref11_RightTable_r0, e_ref11_RightTable_r1, e_ref11_RightTable_r2, e_ref11_RightTable_r3, e_ref11_RightTable_r4, e_ref11_RightTable_r5, e_ref11_RightTable_r6, e_ref11_RightTable_r7, e_ref11_RightTable_r8, e_ref11_RightTable_r9, e_ref11_RightTable_r10, e_ref11_RightTable_r11, e_ref11_RightTable_r12, e_ref11_RightTable_r14, e_ref11_RightTable_r16, e_ref11_RightTable_r17, e_ref11_RightTable_r18, e_ref11_RightTable_r19, e_ref11_RightTable_r20, e_ref11_RightTable_r21, e_ref11_RightTable_r22, e_ref11_RightTable_r23, e_ref11_RightTable_r24, e_ref11_RightTable_r25, e_ref11_RightTable_r26, e_ref11_RightTable_r27, e_ref11_RightTable_r28, e_ref11_RightTable_r29, e_ref11_RightTable_r31, e_ref11_RightTable_r33, e_ref11_RightTable_r35, h1, a1, a1', c1, c1', D_In, c2, c2']
    have c2' : rungOk r = true := c2
    by_cases hz : i = 0
    · have e0 : prevR l i = none := by unfold prevR; simp [hz]
      have hz2 : ¬ (0 : Int) < i := by omega
      have hz3 : ¬ 0 < i := by omega
      rw [e0]
      simp [-List.length_flatMap, -List.map_take, e_ref11_RightTable_r0, e_ref11_RightTable_r1, e_ref11_RightTable_r2, e_ref11_RightTable_r3, e_ref11_RightTable_r4, e_ref11_RightTable_r5, e_ref11_RightTable_r6, e_ref11_RightTable_r7, e_ref11_RightTable_r8, e_ref11_RightTable_r9, e_ref11_RightTable_r10, e_ref11_RightTable_r11, e_ref11_RightTable_r12, e_ref11_RightTable_r14, e_ref11_RightTable_r16, e_ref11_RightTable_r17, e_ref11_RightTable_r18, e_ref11_RightTable_r19, e_ref11_RightTable_r20, e_ref11_RightTable_r21, e_ref11_RightTable_r22, e_ref11_RightTable_r23, e_ref11_RightTable_r24, e_ref11_RightTable_r25, e_ref11_RightTable_r26, e_ref11_RightTable_r27, e_ref11_RightTable_r28, e_ref11_RightTable_r29, e_ref11_RightTable_r31, e_ref11_RightTable_r33, e_ref11_RightTable_r35, h1, a1, a1', w1, hz2, hz3, c1, c1', D_In, c2, c2']
      exact WL.to ih (by simp) rfl fun x e σ hh => by simpa [c1', c2'] using hh
    obtain ⟨j, rfl⟩ : ∃ j, i = j + 1 := ⟨i - 1, by omega⟩
    have hj : j < l.length := by omega
    obtain ⟨q, hq⟩ : ∃ x, l[j]? = some x := ⟨_, List.getElem?_eq_getElem hj⟩
    have b1 := rn_dr hq
    have b1' : (l.flatMap Rn.enc).drop (j * 2 + 1) = .int .i64 q.c :: (l.flatMap Rn.enc).drop (j * 2 + 2) := by rw [← List.drop_drop, b1]; rfl
    have e0 : prevR l (j + 1) = some q := by unfold prevR; simp [hq]
    rw [e0]
    have w2 : IntKind.i64.wrap (((j + 1 : Nat) : Int) - 1) = (j : Int) := by rw [show ((j + 1 : Nat) : Int) - 1 = j by omega]; exact w64 (by omega)
    have hz' : (0 : Int) < ((j + 1 : Nat) : Int) := by omega
    generalize j + 1 = i at *
    have hz2 : 0 < i := by omega
    by_cases c3 : r.u ≤ q.u
    · have c3' : ¬ q.u < r.u := by omega
      simp [-List.length_flatMap, -List.map_take, e_ref11_RightTable_r0, e_ref11_RightTable_r1, e_ref11_RightTable_r2, e_ref11_RightTable_r3, e_ref11_RightTable_r4, e_ref11_RightTable_r5, e_ref11_RightTable_r6, e_ref11_RightTable_r7, e_ref11_RightTable_r8, e_ref11_RightTable_r9, e_ref11_RightTable_r10, e_ref11_RightTable_r11, e_ref11_RightTable_r12, e_ref11_RightTable_r14, e_ref11_RightTable_r16, e_ref11_RightTable_r17, e_ref11_RightTable_r18, e_ref11_RightTable_r19, e_ref11_RightTable_r20, e_ref11_RightTable_r21, e_ref11_RightTable_r22, e_ref11_RightTable_r23, e_ref11_RightTable_r24, e_ref11_RightTable_r25, e_ref11_RightTable_r26, e_ref11_RightTable_r27, e_ref11_RightTable_r28, e_ref11_RightTable_r29, e_ref11_RightTable_r31, e_ref11_RightTable_r33, e_ref11_RightTable_r35, h1, a1, a1', b1, b1', hj, w2, hz', hz2, c1, c1', D_In, c2, c2', c3, c3']
    have c3' : q.u < r.u := by omega
    by_cases c4 : q.c ≤ r.c
    · have c4' : ¬ r.c < q.c := by omega
      simp [-List.length_flatMap, -List.map_take, e_ref11_RightTable_r0, e_ref11_RightTable_r1, e_ref11_RightTable_r2, e_ref11_RightTable_r3, e_ref11_RightTable_r4, e_ref11_RightTable_r5, e_ref11_RightTable_r6, e_ref11_RightTable_r7, e_ref11_RightTable_r8, e_ref11_RightTable_r9, e_ref11_RightTable_r10, e_ref11_RightTable_r11, e_ref11_RightTable_r12, e_ref11_RightTable_r14, e_ref11_RightTable_r16, e_ref11_RightTable_r17, e_ref11_RightTable_r18, e_ref11_RightTable_r19, e_ref11_RightTable_r20, e_ref11_RightTable_r21, e_ref11_RightTable_r22, e_ref11_RightTable_r23, e_ref11_RightTable_r24, e_ref11_RightTable_r25, e_ref11_RightTable_r26, e_ref11_RightTable_r27, e_ref11_RightTable_r28, e_ref11_RightTable_r29, e_ref11_RightTable_r31, e_ref11_RightTable_r33, e_ref11_RightTable_r35, h1, a1, a1', b1, b1', hj, w2, hz', hz2, c1, c1', D_In, c2, c2', c3, c3', c4, c4']
    have c4' : r.c < q.c := by omega
    simp [-List.length_flatMap, -List.map_take, e_ref11_RightTable_r0, e_ref11_RightTable_r1, e_ref11_RightTable_r2, e_ref11_RightTable_r3, e_ref11_RightTable_r4, e_ref11_RightTable_r5, e_ref11_RightTable_r6, e_ref11_RightTable_r7, e_ref11_RightTable_r8, e_ref11_RightTable_r9, e_ref11_RightTable_r10, e_ref11_RightTable_r11, e_ref11_RightTable_r12, e_ref11_RightTable_r14, e_ref11_RightTable_r16, e_ref11_RightTable_r17, e_ref11_RightTable_r18, e_ref11_RightTable_r19, e_ref11_RightTable_r20, e_ref11_RightTable_r21, e_ref11_RightTable_r22, e_ref11_RightTable_r23, e_ref11_RightTable_r24, e_ref11_RightTable_r25, e_ref11_RightTable_r26, e_ref11_RightTable_r27, e_ref11_RightTable_r28, e_ref11_RightTable_r29, e_ref11_RightTable_r31, e_ref11_RightTable_r33, e_ref11_RightTable_r35, h1, a1, a1', b1, b1', hj, w1, w2, hz', hz2, c1, c1', D_In, c2, c2', c3, c3', c4, c4']
    exact WL.to ih (by simp) rfl fun x e σ hh => by simpa [c1', c2', c3', c4'] using hh
/-- One year's table, as it is read first. -/
def firstR (l : List Rn) : Bool := inn l.length 1 70000 && (decide ((l.getLastD ⟨-1, 0⟩).u = held) && rgR none l)
theorem firstR_eq (l : List Rn) : firstR l = rightL l := by
  unfold firstR
  cases h1 : inn l.length 1 70000
  · have : rightL l = false := by
      cases h : rightL l
      · rfl
      · have h2 := inn_iff.2 (rightL_iff.1 h).2.2.1
        rw [h1] at h2; exact absurd h2 (by decide)
    rw [this]; rfl
  by_cases h2 : (l.getLastD ⟨-1, 0⟩).u = held
  · rw [rightR (inn_iff.1 h1) h2, decide_eq_true h2, Bool.true_and, Bool.true_and]
  · have : rightL l = false := by
      cases h : rightL l
      · rfl
      · exact absurd (rightL_iff.1 h).2.2.2.2 h2
    rw [this, decide_eq_false h2]; rfl
theorem L_rt2 {p : Pg} {t : List (List Rn)} (ht : t.length ≤ 100000) (hl : ∀ l ∈ t, l.length ≤ 100000) : ∀ (m y : Nat), y + m = t.length →
    WL T [1, 2, 5] false f_ref11_RightTable_l15 [(1, .lst t.length (t.flatMap ladE)), (2, .cref p.enc), (5, .int .i64 y)] σ
      (fun x e σ' => σ' = σ ∧ if allB (t.drop y) rightL then x = .exit 0 ∧ get e 1 = .lst t.length (t.flatMap ladE) ∧ get e 2 = .cref p.enc else x = .ret ∧ get e 4 = .bool false)
  | 0, y, hy => by
    refine WL_step e_ref11_RightTable_l15 ?_
    have h1 : ¬ y < t.length := by omega
    have h2 : t.drop y = [] := List.drop_eq_nil_of_le (by omega)
    rw [h2]
    simp [-List.length_flatMap, -List.map_take, e_ref11_RightTable_r0, e_ref11_RightTable_r1, e_ref11_RightTable_r2, e_ref11_RightTable_r3, e_ref11_RightTable_r4, e_ref11_RightTable_r5, e_ref11_RightTable_r6, e_ref11_RightTable_r7, e_ref11_RightTable_r8, e_ref11_RightTable_r9, e_ref11_RightTable_r10, e_ref11_RightTable_r11, e_ref11_RightTable_r12, e_ref11_RightTable_r14, e_ref11_RightTable_r16, e_ref11_RightTable_r17, e_ref11_RightTable_r18, e_ref11_RightTable_r19, e_ref11_RightTable_r20, e_ref11_RightTable_r21, e_ref11_RightTable_r22, e_ref11_RightTable_r23, e_ref11_RightTable_r24, e_ref11_RightTable_r25, e_ref11_RightTable_r26, e_ref11_RightTable_r27, e_ref11_RightTable_r28, e_ref11_RightTable_r29, e_ref11_RightTable_r31, e_ref11_RightTable_r33, e_ref11_RightTable_r35, h1, allB_nil]
  | m + 1, y, hy => by
    refine WL_step e_ref11_RightTable_l15 ?_
    have h1 : y < t.length := by omega
    obtain ⟨l, hx⟩ : ∃ x, t[y]? = some x := ⟨_, List.getElem?_eq_getElem h1⟩
    have hll := hl l (List.mem_of_getElem? hx)
    have a1 := ladE_at hx
    have w1 := wnext h1 (by omega)
    have ih := L_rt2 (p := p) ht hl m (y + 1) (by omega)
    have hR := L_rt1 (σ := σ) (p := p) (t := t) (y := y) hll l.length 0 (by omega)
    have e0 : prevR l 0 = none := rfl
    have e1 : allB (t.drop y) rightL = (firstR l && allB (t.drop (y + 1)) rightL) := by rw [dropS hx, allB_cons, firstR_eq]
    rw [e1]
    unfold firstR
    generalize allB (t.drop (y + 1)) rightL = G at *
    by_cases c1 : (l.length : Int) < 1
    · have c1' : inn l.length 1 70000 = false := inn_no (by omega)
      simp [-List.length_flatMap, -List.map_take, e_ref11_RightTable_r0, e_ref11_RightTable_r1, e_ref11_RightTable_r2, e_ref11_RightTable_r3, e_ref11_RightTable_r4, e_ref11_RightTable_r5, e_ref11_RightTable_r6, e_ref11_RightTable_r7, e_ref11_RightTable_r8, e_ref11_RightTable_r9, e_ref11_RightTable_r10, e_ref11_RightTable_r11, e_ref11_RightTable_r12, e_ref11_RightTable_r14, e_ref11_RightTable_r16, e_ref11_RightTable_r17, e_ref11_RightTable_r18, e_ref11_RightTable_r19, e_ref11_RightTable_r20, e_ref11_RightTable_r21, e_ref11_RightTable_r22, e_ref11_RightTable_r23, e_ref11_RightTable_r24, e_ref11_RightTable_r25, e_ref11_RightTable_r26, e_ref11_RightTable_r27, e_ref11_RightTable_r28, e_ref11_RightTable_r29, e_ref11_RightTable_r31, e_ref11_RightTable_r33, e_ref11_RightTable_r35, h1, a1, c1, c1']
    by_cases c2 : (70000 : Int) < l.length
    · have c1' : inn l.length 1 70000 = false := inn_no (by omega)
      simp [-List.length_flatMap, -List.map_take, e_ref11_RightTable_r0, e_ref11_RightTable_r1, e_ref11_RightTable_r2, e_ref11_RightTable_r3, e_ref11_RightTable_r4, e_ref11_RightTable_r5, e_ref11_RightTable_r6, e_ref11_RightTable_r7, e_ref11_RightTable_r8, e_ref11_RightTable_r9, e_ref11_RightTable_r10, e_ref11_RightTable_r11, e_ref11_RightTable_r12, e_ref11_RightTable_r14, e_ref11_RightTable_r16, e_ref11_RightTable_r17, e_ref11_RightTable_r18, e_ref11_RightTable_r19, e_ref11_RightTable_r20, e_ref11_RightTable_r21, e_ref11_RightTable_r22, e_ref11_RightTable_r23, e_ref11_RightTable_r24, e_ref11_RightTable_r25, e_ref11_RightTable_r26, e_ref11_RightTable_r27, e_ref11_RightTable_r28, e_ref11_RightTable_r29, e_ref11_RightTable_r31, e_ref11_RightTable_r33, e_ref11_RightTable_r35, h1, a1, c1, c2, c1']
    have c1' : inn l.length 1 70000 = true := inn_iff.2 (by omega)
    have hne : l ≠ [] := by rintro rfl; simp at c1
    have w2 : IntKind.i64.wrap ((l.length : Int) - 1) = ((l.length - 1 : Nat) : Int) := by rw [w64 (by omega)]; omega
    have hb : l.length - 1 < l.length := by omega
    obtain ⟨r, hr⟩ : ∃ r, l[l.length - 1]? = some r := ⟨_, List.getElem?_eq_getElem hb⟩
    have a2 := rn_dr hr
    have hlast : l.getLastD ⟨-1, 0⟩ = r := by rw [List.getLastD_eq_getLast?, List.getLast?_eq_getElem?, hr]; rfl
    rw [hlast]
    by_cases c3 : r.u = 100000000
    rotate_left
    · have c3' : ¬ r.u = held := c3
      simp [-List.length_flatMap, -List.map_take, e_ref11_RightTable_r0, e_ref11_RightTable_r1, e_ref11_RightTable_r2, e_ref11_RightTable_r3, e_ref11_RightTable_r4, e_ref11_RightTable_r5, e_ref11_RightTable_r6, e_ref11_RightTable_r7, e_ref11_RightTable_r8, e_ref11_RightTable_r9, e_ref11_RightTable_r10, e_ref11_RightTable_r11, e_ref11_RightTable_r12, e_ref11_RightTable_r14, e_ref11_RightTable_r16, e_ref11_RightTable_r17, e_ref11_RightTable_r18, e_ref11_RightTable_r19, e_ref11_RightTable_r20, e_ref11_RightTable_r21, e_ref11_RightTable_r22, e_ref11_RightTable_r23, e_ref11_RightTable_r24, e_ref11_RightTable_r25, e_ref11_RightTable_r26, e_ref11_RightTable_r27, e_ref11_RightTable_r28, e_ref11_RightTable_r29, e_ref11_RightTable_r31, e_ref11_RightTable_r33, e_ref11_RightTable_r35, h1, a1, c1, c2, c1', w2, hb, a2, c3, c3']
    have c3' : r.u = held := c3
    rw [c3'] at a2
    simp only [held] at a2
    simp [-List.length_flatMap, -List.map_take, e_ref11_RightTable_r0, e_ref11_RightTable_r1, e_ref11_RightTable_r2, e_ref11_RightTable_r3, e_ref11_RightTable_r4, e_ref11_RightTable_r5, e_ref11_RightTable_r6, e_ref11_RightTable_r7, e_ref11_RightTable_r8, e_ref11_RightTable_r9, e_ref11_RightTable_r10, e_ref11_RightTable_r11, e_ref11_RightTable_r12, e_ref11_RightTable_r14, e_ref11_RightTable_r16, e_ref11_RightTable_r17, e_ref11_RightTable_r18, e_ref11_RightTable_r19, e_ref11_RightTable_r20, e_ref11_RightTable_r21, e_ref11_RightTable_r22, e_ref11_RightTable_r23, e_ref11_RightTable_r24, e_ref11_RightTable_r25, e_ref11_RightTable_r26, e_ref11_RightTable_r27, e_ref11_RightTable_r28, e_ref11_RightTable_r29, e_ref11_RightTable_r31, e_ref11_RightTable_r33, e_ref11_RightTable_r35, h1, a1, c1, c2, c1', w2, hb, a2, c3']
    refine WL.to hR (by simp) rfl ?_
    rintro x e σ' ⟨rfl, hh⟩
    rw [List.drop_zero, e0] at hh
    cases hg : rgR none l
    · rw [hg] at hh
      simp only [Bool.false_eq_true, if_false] at hh
      obtain ⟨rfl, g4⟩ := hh
      simp [g4]
    · rw [hg] at hh
      simp only [if_true] at hh
      obtain ⟨rfl, g1, g2, g5⟩ := hh
      simp [-List.length_flatMap, -List.map_take, e_ref11_RightTable_r14, g1, g2, g5, w1]
      exact WL.to ih (by simp) rfl fun x e σ hh => by simpa [c1', c3'] using hh

/-! ### The rungs against the next year -/

/-- Each number of wells of a rung. -/
def chk (p : Pg) (y : Yr) (g : Int → Int) (r : Rn) : Nat → Int → Bool
  | 0, _ => true
  | n + 1, k => (if y.need ≤ r.u + k * p.gain then decide (r.c ≤ min never (k * y.price + g (aft p r.u k))) else true) && chk p y g r n (k + 1)
theorem chk_iff {p : Pg} {y : Yr} {g : Int → Int} {r : Rn} : ∀ (n : Nat) (k : Int), chk p y g r n k = true ↔ ∀ j, k ≤ j → j < k + n → y.need ≤ r.u + j * p.gain → r.c ≤ min never (j * y.price + g (aft p r.u j))
  | 0, k => by simp only [chk, true_iff]; intro j h1 h2; omega
  | n + 1, k => by
    rw [chk, Bool.and_eq_true, chk_iff n (k + 1)]
    constructor
    · rintro ⟨h1, h2⟩ j h3 h4 h5
      by_cases hj : j = k
      · subst hj; rw [if_pos h5] at h1; simpa using h1
      · exact h2 j (by omega) (by omega) h5
    · intro h
      refine ⟨?_, fun j h1 h2 h3 => h j (by omega) (by omega) h3⟩
      split
      · rename_i hn; exact decide_eq_true (h k (by omega) (by omega) hn)
      · rfl
theorem chk_least {p : Pg} (hm : 0 ≤ p.most) {y : Yr} {g : Int → Int} {r : Rn} (hr : r.c ≤ never) : chk p y g r (p.most.toNat + 1) 0 = decide (r.c ≤ leastW p y g r.u) := by
  rw [Bool.eq_iff_iff, chk_iff, decide_eq_true_eq]
  constructor
  · intro h
    rcases leastW_is (p := p) (y := y) (g := g) (c := r.u) hm with h1 | ⟨j, h1, h2, h3, h4⟩
    · omega
    · have := h j h1 (by omega) h3; omega
  · intro h j h1 h2 h3
    have := leastW_at (p := p) (y := y) (g := g) (c := r.u) (j := j) h1 (by omega) h3
    omega
theorem L_rt3 {p : Pg} (hp : pgOk p = true) {t : List (List Rn)} (ht : t.length = p.l.length) (hr : ∀ l ∈ t, rightL l = true) {y : Nat} {yr : Yr} (hyr : p.l[y]? = some yr) {l : List Rn} (hl : t[y]? = some l) {i : Nat} {r : Rn} (hx : l[i]? = some r) : ∀ (m k : Nat), (k : Int) + m = p.most + 1 →
    WL T [1, 2, 8, 9, 10] false f_ref11_RightTable_l30 [(1, .lst t.length (t.flatMap ladE)), (2, .cref p.enc), (8, .int .i64 y), (9, .int .i64 i), (10, .int .i64 k)] σ
      (fun x e σ' => σ' = σ ∧ if chk p yr (costI ((t.drop (y + 1)).headD [⟨held, 0⟩])) r m k then x = .exit 8 ∧ get e 1 = .lst t.length (t.flatMap ladE) ∧ get e 2 = .cref p.enc ∧ get e 8 = .int .i64 y ∧ get e 9 = .int .i64 i else x = .ret ∧ get e 4 = .bool false)
  | 0, k, hk => by
    refine WL_step e_ref11_RightTable_l30 ?_
    have h1 : ¬ (k : Int) ≤ p.most := by omega
    simp [-List.length_flatMap, -List.map_take, e_ref11_RightTable_r0, e_ref11_RightTable_r1, e_ref11_RightTable_r2, e_ref11_RightTable_r3, e_ref11_RightTable_r4, e_ref11_RightTable_r5, e_ref11_RightTable_r6, e_ref11_RightTable_r7, e_ref11_RightTable_r8, e_ref11_RightTable_r9, e_ref11_RightTable_r10, e_ref11_RightTable_r11, e_ref11_RightTable_r12, e_ref11_RightTable_r14, e_ref11_RightTable_r16, e_ref11_RightTable_r17, e_ref11_RightTable_r18, e_ref11_RightTable_r19, e_ref11_RightTable_r20, e_ref11_RightTable_r21, e_ref11_RightTable_r22, e_ref11_RightTable_r23, e_ref11_RightTable_r24, e_ref11_RightTable_r25, e_ref11_RightTable_r26, e_ref11_RightTable_r27, e_ref11_RightTable_r28, e_ref11_RightTable_r29, e_ref11_RightTable_r31, e_ref11_RightTable_r33, e_ref11_RightTable_r35, h1, chk]
  | m + 1, k, hk => by
    refine WL_step e_ref11_RightTable_l30 ?_
    have hp1 := pgOk_iff.1 hp
    have h1 : (k : Int) ≤ p.most := by omega
    have hk3 : 0 ≤ (k : Int) ∧ (k : Int) ≤ 3 := by omega
    have hy := (List.getElem?_eq_some_iff.1 hyr).1
    have hyt := (List.getElem?_eq_some_iff.1 hl).1
    have hi := (List.getElem?_eq_some_iff.1 hx).1
    have hlr := hr l (List.mem_of_getElem? hl)
    have hrm := right_mem hlr r (List.mem_of_getElem? hx)
    simp only [held, never] at hrm
    have hg := gain_bd hp hk3
    have hyk := yrOk_iff.1 (hp1.2.2.2.2.2 yr (List.mem_of_getElem? hyr))
    have hpr := price_bd hk3 hyk.2
    have a1 := ladE_at hl
    have a2 := rn_dr hx
    have a2' : (l.flatMap Rn.enc).drop (i * 2 + 1) = .int .i64 r.c :: (l.flatMap Rn.enc).drop (i * 2 + 2) := by rw [← List.drop_drop, a2]; rfl
    have a3 := yr_at hyr
    have m0 : 0 ≤ (r.u + k * p.gain) * p.keep := Int.mul_nonneg (by omega) hp1.2.2.1.1
    have m1 : (r.u + k * p.gain) * p.keep ≤ 503000000 * 1000 := Int.le_trans (Int.mul_le_mul_of_nonneg_right (by omega) hp1.2.2.1.1) (Int.mul_le_mul_of_nonneg_left hp1.2.2.1.2 (by decide))
    have w1 := w64 (n := (k : Int) + 1) (by omega)
    have w2 := w64 (n := (k : Int) * p.gain) (by omega)
    have w3 := w64 (n := r.u + (k : Int) * p.gain) (by omega)
    have w4 := w64 (n := (k : Int) * yr.price) (by omega)
    have w5 := w64 (n := (r.u + k * p.gain) * p.keep) (by omega)
    have w6 : ((r.u + k * p.gain) * p.keep).tdiv 1000 = aft p r.u k := Int.tdiv_eq_ediv_of_nonneg m0
    have w7 := w64 (n := aft p r.u k) (by unfold aft; omega)
    have w9 : IntKind.i64.wrap ((y : Int) + 1) = (y : Int) + 1 := w64 (by omega)
    have ih := L_rt3 hp ht hr hyr hl hx m (k + 1) (by omega)
    rw [chk]
    have ek : ((k + 1 : Nat) : Int) = (k : Int) + 1 := by omega
    rw [ek] at ih
    by_cases hn : yr.need ≤ r.u + k * p.gain
    rotate_left
    · have hn' : r.u + k * p.gain < yr.need := by omega
      generalize chk p yr (costI ((t.drop (y + 1)).headD [⟨held, 0⟩])) r m ((k : Int) + 1) = G at *
      simp [-List.length_flatMap, -List.map_take, e_ref11_RightTable_r0, e_ref11_RightTable_r1, e_ref11_RightTable_r2, e_ref11_RightTable_r3, e_ref11_RightTable_r4, e_ref11_RightTable_r5, e_ref11_RightTable_r6, e_ref11_RightTable_r7, e_ref11_RightTable_r8, e_ref11_RightTable_r9, e_ref11_RightTable_r10, e_ref11_RightTable_r11, e_ref11_RightTable_r12, e_ref11_RightTable_r14, e_ref11_RightTable_r16, e_ref11_RightTable_r17, e_ref11_RightTable_r18, e_ref11_RightTable_r19, e_ref11_RightTable_r20, e_ref11_RightTable_r21, e_ref11_RightTable_r22, e_ref11_RightTable_r23, e_ref11_RightTable_r24, e_ref11_RightTable_r25, e_ref11_RightTable_r26, e_ref11_RightTable_r27, e_ref11_RightTable_r28, e_ref11_RightTable_r29, e_ref11_RightTable_r31, e_ref11_RightTable_r33, e_ref11_RightTable_r35, h1, hy, hyt, hi, a1, a2, a3, hn', w1, w2, w3]
      exact WL.to ih (by simp) rfl fun x e σ hh => by simpa [hn] using hh
    have hn' : ¬ r.u + k * p.gain < yr.need := by omega
    by_cases hc : y + 1 < t.length
    · obtain ⟨nx, hnx⟩ : ∃ x, t[y + 1]? = some x := ⟨_, List.getElem?_eq_getElem hc⟩
      have hnr := hr nx (List.mem_of_getElem? hnx)
      have hhd : (t.drop (y + 1)).headD [⟨held, 0⟩] = nx := by rw [dropS hnx]; rfl
      rw [hhd] at ih ⊢
      have hb := costI_bd hnr (c := aft p r.u k)
      simp only [never] at hb
      have hC := fun σ => C_CostR (σ := σ) (l := nx) (by have := (rightL_iff.1 hnr).2.2.1; omega) (c := aft p r.u k)
      have b1 := ladE_at hnx
      have hc' : (y : Int) + 1 < t.length := by omega
      have hc0 : (0 : Int) ≤ (y : Int) + 1 := by omega
      have w8 := w64 (n := (k : Int) * yr.price + costI nx (aft p r.u k)) (by omega)
      generalize chk p yr (costI nx) r m ((k : Int) + 1) = G at *
      generalize costI nx (aft p r.u k) = q at *
      by_cases hq : r.c ≤ min 1000000000000 ((k : Int) * yr.price + q)
      · have hq' : ¬ min 1000000000000 ((k : Int) * yr.price + q) < r.c := by omega
        simp [-List.length_flatMap, -List.map_take, e_ref11_RightTable_r0, e_ref11_RightTable_r1, e_ref11_RightTable_r2, e_ref11_RightTable_r3, e_ref11_RightTable_r4, e_ref11_RightTable_r5, e_ref11_RightTable_r6, e_ref11_RightTable_r7, e_ref11_RightTable_r8, e_ref11_RightTable_r9, e_ref11_RightTable_r10, e_ref11_RightTable_r11, e_ref11_RightTable_r12, e_ref11_RightTable_r14, e_ref11_RightTable_r16, e_ref11_RightTable_r17, e_ref11_RightTable_r18, e_ref11_RightTable_r19, e_ref11_RightTable_r20, e_ref11_RightTable_r21, e_ref11_RightTable_r22, e_ref11_RightTable_r23, e_ref11_RightTable_r24, e_ref11_RightTable_r25, e_ref11_RightTable_r26, e_ref11_RightTable_r27, e_ref11_RightTable_r28, e_ref11_RightTable_r29, e_ref11_RightTable_r31, e_ref11_RightTable_r33, e_ref11_RightTable_r35, h1, hy, hyt, hi, a1, a2, a2', a3, b1, hn', hc, hc', hc0, hC, hq', w1, w2, w3, w4, w5, w6, w7, w8, w9]
        exact WL.to ih (by simp) rfl fun x e σ hh => by have hq2 : r.c ≤ min never ((k : Int) * yr.price + q) := hq; simpa [hn, hq2] using hh
      · have hq' : min 1000000000000 ((k : Int) * yr.price + q) < r.c := by omega
        simp [-List.length_flatMap, -List.map_take, e_ref11_RightTable_r0, e_ref11_RightTable_r1, e_ref11_RightTable_r2, e_ref11_RightTable_r3, e_ref11_RightTable_r4, e_ref11_RightTable_r5, e_ref11_RightTable_r6, e_ref11_RightTable_r7, e_ref11_RightTable_r8, e_ref11_RightTable_r9, e_ref11_RightTable_r10, e_ref11_RightTable_r11, e_ref11_RightTable_r12, e_ref11_RightTable_r14, e_ref11_RightTable_r16, e_ref11_RightTable_r17, e_ref11_RightTable_r18, e_ref11_RightTable_r19, e_ref11_RightTable_r20, e_ref11_RightTable_r21, e_ref11_RightTable_r22, e_ref11_RightTable_r23, e_ref11_RightTable_r24, e_ref11_RightTable_r25, e_ref11_RightTable_r26, e_ref11_RightTable_r27, e_ref11_RightTable_r28, e_ref11_RightTable_r29, e_ref11_RightTable_r31, e_ref11_RightTable_r33, e_ref11_RightTable_r35, h1, hy, hyt, hi, a1, a2, a2', a3, b1, hn', hc, hc', hc0, hC, hq', w1, w2, w3, w4, w5, w6, w7, w8, w9]
        exact fun h => absurd h hq
    · have hc' : ¬ (y : Int) + 1 < t.length := by omega
      have hhd : (t.drop (y + 1)).headD [⟨held, 0⟩] = [⟨held, 0⟩] := by rw [List.drop_eq_nil_of_le (by omega)]; rfl
      rw [hhd] at ih ⊢
      have e0 : costI [⟨held, 0⟩] (aft p r.u k) = 0 := rfl
      rw [e0, Int.add_zero]
      generalize chk p yr (costI [⟨held, 0⟩]) r m ((k : Int) + 1) = G at *
      by_cases hq : r.c ≤ min 1000000000000 ((k : Int) * yr.price)
      · have hq' : ¬ min 1000000000000 ((k : Int) * yr.price) < r.c := by omega
        simp [-List.length_flatMap, -List.map_take, e_ref11_RightTable_r0, e_ref11_RightTable_r1, e_ref11_RightTable_r2, e_ref11_RightTable_r3, e_ref11_RightTable_r4, e_ref11_RightTable_r5, e_ref11_RightTable_r6, e_ref11_RightTable_r7, e_ref11_RightTable_r8, e_ref11_RightTable_r9, e_ref11_RightTable_r10, e_ref11_RightTable_r11, e_ref11_RightTable_r12, e_ref11_RightTable_r14, e_ref11_RightTable_r16, e_ref11_RightTable_r17, e_ref11_RightTable_r18, e_ref11_RightTable_r19, e_ref11_RightTable_r20, e_ref11_RightTable_r21, e_ref11_RightTable_r22, e_ref11_RightTable_r23, e_ref11_RightTable_r24, e_ref11_RightTable_r25, e_ref11_RightTable_r26, e_ref11_RightTable_r27, e_ref11_RightTable_r28, e_ref11_RightTable_r29, e_ref11_RightTable_r31, e_ref11_RightTable_r33, e_ref11_RightTable_r35, h1, hy, hyt, hi, a1, a2, a2', a3, hn', hc, hc', hq', w1, w2, w3, w4, w9]
        exact WL.to ih (by simp) rfl fun x e σ hh => by have hq2 : r.c ≤ min never ((k : Int) * yr.price) := hq; simpa [hn, hq2] using hh
      · have hq' : min 1000000000000 ((k : Int) * yr.price) < r.c := by omega
        simp [-List.length_flatMap, -List.map_take, e_ref11_RightTable_r0, e_ref11_RightTable_r1, e_ref11_RightTable_r2, e_ref11_RightTable_r3, e_ref11_RightTable_r4, e_ref11_RightTable_r5, e_ref11_RightTable_r6, e_ref11_RightTable_r7, e_ref11_RightTable_r8, e_ref11_RightTable_r9, e_ref11_RightTable_r10, e_ref11_RightTable_r11, e_ref11_RightTable_r12, e_ref11_RightTable_r14, e_ref11_RightTable_r16, e_ref11_RightTable_r17, e_ref11_RightTable_r18, e_ref11_RightTable_r19, e_ref11_RightTable_r20, e_ref11_RightTable_r21, e_ref11_RightTable_r22, e_ref11_RightTable_r23, e_ref11_RightTable_r24, e_ref11_RightTable_r25, e_ref11_RightTable_r26, e_ref11_RightTable_r27, e_ref11_RightTable_r28, e_ref11_RightTable_r29, e_ref11_RightTable_r31, e_ref11_RightTable_r33, e_ref11_RightTable_r35, h1, hy, hyt, hi, a1, a2, a2', a3, hn', hc, hc', hq', w1, w2, w3, w4, w9]
        exact fun h => absurd h hq
theorem L_rt4 {p : Pg} (hp : pgOk p = true) {t : List (List Rn)} (ht : t.length = p.l.length) (hr : ∀ l ∈ t, rightL l = true) {y : Nat} {yr : Yr} (hyr : p.l[y]? = some yr) {l : List Rn} (hl : t[y]? = some l) : ∀ (m i : Nat), i + m = l.length →
    WL T [1, 2, 8, 9] false f_ref11_RightTable_l32 [(1, .lst t.length (t.flatMap ladE)), (2, .cref p.enc), (8, .int .i64 y), (9, .int .i64 i)] σ
      (fun x e σ' => σ' = σ ∧ if below p yr ((t.drop (y + 1)).headD [⟨held, 0⟩]) (l.drop i) then x = .exit 6 ∧ get e 1 = .lst t.length (t.flatMap ladE) ∧ get e 2 = .cref p.enc ∧ get e 8 = .int .i64 y else x = .ret ∧ get e 4 = .bool false)
  | 0, i, hi => by
    refine WL_step e_ref11_RightTable_l32 ?_
    have hyt := (List.getElem?_eq_some_iff.1 hl).1
    have a1 := ladE_at hl
    have h1 : ¬ i < l.length := by omega
    have h2 : l.drop i = [] := List.drop_eq_nil_of_le (by omega)
    rw [h2]
    simp [-List.length_flatMap, -List.map_take, e_ref11_RightTable_r0, e_ref11_RightTable_r1, e_ref11_RightTable_r2, e_ref11_RightTable_r3, e_ref11_RightTable_r4, e_ref11_RightTable_r5, e_ref11_RightTable_r6, e_ref11_RightTable_r7, e_ref11_RightTable_r8, e_ref11_RightTable_r9, e_ref11_RightTable_r10, e_ref11_RightTable_r11, e_ref11_RightTable_r12, e_ref11_RightTable_r14, e_ref11_RightTable_r16, e_ref11_RightTable_r17, e_ref11_RightTable_r18, e_ref11_RightTable_r19, e_ref11_RightTable_r20, e_ref11_RightTable_r21, e_ref11_RightTable_r22, e_ref11_RightTable_r23, e_ref11_RightTable_r24, e_ref11_RightTable_r25, e_ref11_RightTable_r26, e_ref11_RightTable_r27, e_ref11_RightTable_r28, e_ref11_RightTable_r29, e_ref11_RightTable_r31, e_ref11_RightTable_r33, e_ref11_RightTable_r35, h1, hyt, a1, below, allB_nil]
  | m + 1, i, hi => by
    refine WL_step e_ref11_RightTable_l32 ?_
    have hp1 := pgOk_iff.1 hp
    have hyt := (List.getElem?_eq_some_iff.1 hl).1
    have a1 := ladE_at hl
    have h1 : i < l.length := by omega
    obtain ⟨r, hx⟩ : ∃ x, l[i]? = some x := ⟨_, List.getElem?_eq_getElem h1⟩
    have hlr := hr l (List.mem_of_getElem? hl)
    have hll := (rightL_iff.1 hlr).2.2.1
    have hrm := right_mem hlr r (List.mem_of_getElem? hx)
    have w1 := wnext h1 (by omega)
    have ih := L_rt4 hp ht hr hyr hl m (i + 1) (by omega)
    have hK := chk_least hp1.2.2.2.1.1 (y := yr) (g := costI ((t.drop (y + 1)).headD [⟨held, 0⟩])) (r := r) hrm.2.2
    have e1 : below p yr ((t.drop (y + 1)).headD [⟨held, 0⟩]) (l.drop i) = (chk p yr (costI ((t.drop (y + 1)).headD [⟨held, 0⟩])) r (p.most.toNat + 1) 0 && below p yr ((t.drop (y + 1)).headD [⟨held, 0⟩]) (l.drop (i + 1))) := by
      rw [hK]; unfold below; rw [dropS hx, allB_cons]
    rw [e1]
    generalize below p yr ((t.drop (y + 1)).headD [⟨held, 0⟩]) (l.drop (i + 1)) = G at *
    simp [-List.length_flatMap, -List.map_take, e_ref11_RightTable_r0, e_ref11_RightTable_r1, e_ref11_RightTable_r2, e_ref11_RightTable_r3, e_ref11_RightTable_r4, e_ref11_RightTable_r5, e_ref11_RightTable_r6, e_ref11_RightTable_r7, e_ref11_RightTable_r8, e_ref11_RightTable_r9, e_ref11_RightTable_r10, e_ref11_RightTable_r11, e_ref11_RightTable_r12, e_ref11_RightTable_r14, e_ref11_RightTable_r16, e_ref11_RightTable_r17, e_ref11_RightTable_r18, e_ref11_RightTable_r19, e_ref11_RightTable_r20, e_ref11_RightTable_r21, e_ref11_RightTable_r22, e_ref11_RightTable_r23, e_ref11_RightTable_r24, e_ref11_RightTable_r25, e_ref11_RightTable_r26, e_ref11_RightTable_r27, e_ref11_RightTable_r28, e_ref11_RightTable_r29, e_ref11_RightTable_r31, e_ref11_RightTable_r33, e_ref11_RightTable_r35, h1, hyt, a1]
    refine WL.to (L_rt3 (σ := σ) hp ht hr hyr hl hx (p.most.toNat + 1) 0 (by omega)) (by simp) rfl ?_
    rintro x e σ' ⟨rfl, hh⟩
    simp only [show (((0 : Nat)) : Int) = 0 from rfl] at hh
    generalize chk p yr (costI ((t.drop (y + 1)).headD [⟨held, 0⟩])) r (p.most.toNat + 1) 0 = b at *
    cases b
    · simp only [Bool.false_eq_true, if_false] at hh
      obtain ⟨rfl, g4⟩ := hh
      simp [g4]
    · simp only [if_true] at hh
      obtain ⟨rfl, g1, g2, g8, g9⟩ := hh
      simp [-List.length_flatMap, -List.map_take, e_ref11_RightTable_r31, g1, g2, g8, g9, w1]
      exact WL.to ih (by simp) rfl fun x e σ hh => by simpa using hh
theorem L_rt5 {p : Pg} (hp : pgOk p = true) {t : List (List Rn)} (ht : t.length = p.l.length) (hr : ∀ l ∈ t, rightL l = true) : ∀ (m y : Nat), y + m = t.length →
    WL T [1, 2, 8] false f_ref11_RightTable_l34 [(1, .lst t.length (t.flatMap ladE)), (2, .cref p.enc), (8, .int .i64 y)] σ
      (fun x e σ' => σ' = σ ∧ if belows p (p.l.drop y) (t.drop y) then x = .exit 4 else x = .ret ∧ get e 4 = .bool false)
  | 0, y, hy => by
    refine WL_step e_ref11_RightTable_l34 ?_
    have h1 : ¬ y < t.length := by omega
    have h2 : t.drop y = [] := List.drop_eq_nil_of_le (by omega)
    have h3 : p.l.drop y = [] := List.drop_eq_nil_of_le (by omega)
    rw [h2, h3]
    simp [-List.length_flatMap, -List.map_take, e_ref11_RightTable_r0, e_ref11_RightTable_r1, e_ref11_RightTable_r2, e_ref11_RightTable_r3, e_ref11_RightTable_r4, e_ref11_RightTable_r5, e_ref11_RightTable_r6, e_ref11_RightTable_r7, e_ref11_RightTable_r8, e_ref11_RightTable_r9, e_ref11_RightTable_r10, e_ref11_RightTable_r11, e_ref11_RightTable_r12, e_ref11_RightTable_r14, e_ref11_RightTable_r16, e_ref11_RightTable_r17, e_ref11_RightTable_r18, e_ref11_RightTable_r19, e_ref11_RightTable_r20, e_ref11_RightTable_r21, e_ref11_RightTable_r22, e_ref11_RightTable_r23, e_ref11_RightTable_r24, e_ref11_RightTable_r25, e_ref11_RightTable_r26, e_ref11_RightTable_r27, e_ref11_RightTable_r28, e_ref11_RightTable_r29, e_ref11_RightTable_r31, e_ref11_RightTable_r33, e_ref11_RightTable_r35, h1, belows]
  | m + 1, y, hy => by
    refine WL_step e_ref11_RightTable_l34 ?_
    have hp1 := pgOk_iff.1 hp
    have h1 : y < t.length := by omega
    obtain ⟨l, hl⟩ : ∃ x, t[y]? = some x := ⟨_, List.getElem?_eq_getElem h1⟩
    obtain ⟨yr, hyr⟩ : ∃ x, p.l[y]? = some x := ⟨_, List.getElem?_eq_getElem (show y < p.l.length by omega)⟩
    have w1 := wnext h1 (by omega)
    have ih := L_rt5 hp ht hr m (y + 1) (by omega)
    have e1 : belows p (p.l.drop y) (t.drop y) = (below p yr ((t.drop (y + 1)).headD [⟨held, 0⟩]) l && belows p (p.l.drop (y + 1)) (t.drop (y + 1))) := by
      rw [dropS hl, dropS hyr, belows]
    rw [e1]
    generalize belows p (p.l.drop (y + 1)) (t.drop (y + 1)) = G at *
    simp [-List.length_flatMap, -List.map_take, e_ref11_RightTable_r0, e_ref11_RightTable_r1, e_ref11_RightTable_r2, e_ref11_RightTable_r3, e_ref11_RightTable_r4, e_ref11_RightTable_r5, e_ref11_RightTable_r6, e_ref11_RightTable_r7, e_ref11_RightTable_r8, e_ref11_RightTable_r9, e_ref11_RightTable_r10, e_ref11_RightTable_r11, e_ref11_RightTable_r12, e_ref11_RightTable_r14, e_ref11_RightTable_r16, e_ref11_RightTable_r17, e_ref11_RightTable_r18, e_ref11_RightTable_r19, e_ref11_RightTable_r20, e_ref11_RightTable_r21, e_ref11_RightTable_r22, e_ref11_RightTable_r23, e_ref11_RightTable_r24, e_ref11_RightTable_r25, e_ref11_RightTable_r26, e_ref11_RightTable_r27, e_ref11_RightTable_r28, e_ref11_RightTable_r29, e_ref11_RightTable_r31, e_ref11_RightTable_r33, e_ref11_RightTable_r35, h1]
    refine WL.to (L_rt4 (σ := σ) hp ht hr hyr hl l.length 0 (by omega)) (by simp) rfl ?_
    rintro x e σ' ⟨rfl, hh⟩
    rw [List.drop_zero] at hh
    generalize below p yr ((t.drop (y + 1)).headD [⟨held, 0⟩]) l = b at *
    cases b
    · simp only [Bool.false_eq_true, if_false] at hh
      obtain ⟨rfl, g4⟩ := hh
      simp [g4]
    · simp only [if_true] at hh
      obtain ⟨rfl, g1, g2, g8⟩ := hh
      simp [-List.length_flatMap, -List.map_take, e_ref11_RightTable_r33, g1, g2, g8, w1]
      exact WL.to ih (by simp) rfl fun x e σ hh => by simpa using hh
theorem C_RightTable {p : Pg} (hp : pgOk p = true) {t : List (List Rn)} (ht : t.length ≤ 100000) (hl : ∀ l ∈ t, l.length ≤ 100000) : lim T (.call false i_ref11_RightTable [.agg [.int .i64 p.start, .int .i64 p.gain, .int .i64 p.keep, .int .i64 p.most, .lst p.l.length (p.l.flatMap Yr.enc)], .lst t.length (t.flatMap ladE)] σ) = some (.val (.bool (tableOk p t)) σ) := by
  refine call_of T_ref11_RightTable e_ref11_RightTable rfl ?_
  unfold tableOk
  by_cases h1 : t.length = p.l.length
  rotate_left
  · have h1' : ¬ (t.length : Int) = p.l.length := by omega
    simp [-List.length_flatMap, -List.map_take, e_ref11_RightTable_r0, e_ref11_RightTable_r1, e_ref11_RightTable_r2, e_ref11_RightTable_r3, e_ref11_RightTable_r4, e_ref11_RightTable_r5, e_ref11_RightTable_r6, e_ref11_RightTable_r7, e_ref11_RightTable_r8, e_ref11_RightTable_r9, e_ref11_RightTable_r10, e_ref11_RightTable_r11, e_ref11_RightTable_r12, e_ref11_RightTable_r14, e_ref11_RightTable_r16, e_ref11_RightTable_r17, e_ref11_RightTable_r18, e_ref11_RightTable_r19, e_ref11_RightTable_r20, e_ref11_RightTable_r21, e_ref11_RightTable_r22, e_ref11_RightTable_r23, e_ref11_RightTable_r24, e_ref11_RightTable_r25, e_ref11_RightTable_r26, e_ref11_RightTable_r27, e_ref11_RightTable_r28, e_ref11_RightTable_r29, e_ref11_RightTable_r31, e_ref11_RightTable_r33, e_ref11_RightTable_r35, h1, h1']
  have h1' : ((t.length : Int) != p.l.length) = false := by simp [h1]
  rw [decide_eq_true h1, Bool.true_and]
  simp [-List.length_flatMap, -List.map_take, e_ref11_RightTable_r0, e_ref11_RightTable_r1, e_ref11_RightTable_r2, e_ref11_RightTable_r3, e_ref11_RightTable_r4, e_ref11_RightTable_r5, e_ref11_RightTable_r6, e_ref11_RightTable_r7, e_ref11_RightTable_r8, e_ref11_RightTable_r9, e_ref11_RightTable_r10, e_ref11_RightTable_r11, e_ref11_RightTable_r12, e_ref11_RightTable_r14, e_ref11_RightTable_r16, e_ref11_RightTable_r17, e_ref11_RightTable_r18, e_ref11_RightTable_r19, e_ref11_RightTable_r20, e_ref11_RightTable_r21, e_ref11_RightTable_r22, e_ref11_RightTable_r23, e_ref11_RightTable_r24, e_ref11_RightTable_r25, e_ref11_RightTable_r26, e_ref11_RightTable_r27, e_ref11_RightTable_r28, e_ref11_RightTable_r29, e_ref11_RightTable_r31, e_ref11_RightTable_r33, e_ref11_RightTable_r35, h1']
  refine WL.to (L_rt2 (σ := [] :: σ) (p := p) ht hl t.length 0 (by omega)) (by simp) rfl ?_
  rintro x e σ' ⟨rfl, hh⟩
  rw [List.drop_zero] at hh
  cases hA : allB t rightL
  · simp only [hA, Bool.false_eq_true, if_false] at hh
    obtain ⟨rfl, g4⟩ := hh
    simp [g4]
  · simp only [hA, if_true] at hh
    obtain ⟨rfl, g1, g2⟩ := hh
    simp [-List.length_flatMap, -List.map_take, e_ref11_RightTable_r16, g1, g2]
    refine WL.to (L_rt5 (σ := [] :: σ) hp h1 (allB_iff.1 hA) t.length 0 (by omega)) (by simp) rfl ?_
    rintro x e σ' ⟨rfl, hh⟩
    simp only [List.drop_zero] at hh
    cases hB : belows p p.l t
    · simp only [hB, Bool.false_eq_true, if_false] at hh
      obtain ⟨rfl, g4⟩ := hh
      simp [g4]
    · simp only [hB, if_true] at hh
      subst hh
      simp [-List.length_flatMap, -List.map_take, e_ref11_RightTable_r35]
theorem C_Shows {p : Pg} (hp : pgOk p = true) {ks : List Int} (hk : ks.length ≤ 1000000) {t : List (List Rn)} (ht : t.length ≤ 100000) (hl : ∀ l ∈ t, l.length ≤ 100000) (hσ : σ ≠ []) :
    lim T (.call false i_ref11_Shows [.agg [.int .i64 p.start, .int .i64 p.gain, .int .i64 p.keep, .int .i64 p.most, .lst p.l.length (p.l.flatMap Yr.enc)], .lst ks.length (ks.flatMap intE), .lst t.length (t.flatMap ladE)] σ) = some (.val (.bool (shows p ks t)) σ) := by
  refine call_of T_ref11_Shows e_ref11_Shows rfl ?_
  have hp1 := pgOk_iff.1 hp
  have hN := fun σ => C_NumR (σ := σ) (p := p) hk
  have hR := fun σ => C_RightTable (σ := σ) hp ht hl
  unfold shows
  cases h1 : planOk p ks
  · simp [-List.length_flatMap, -List.map_take, e_ref11_Shows_r0, e_ref11_Shows_r1, e_ref11_Shows_r2, e_ref11_Shows_r3, e_ref11_Shows_r4, hN, h1]
  cases h2 : tableOk p t
  · simp [-List.length_flatMap, -List.map_take, e_ref11_Shows_r0, e_ref11_Shows_r1, e_ref11_Shows_r2, e_ref11_Shows_r3, e_ref11_Shows_r4, hN, hR, h1, h2]
  have hO := fun σ (hσ : σ ≠ []) => C_OutR (σ := σ) hp h1 hσ
  unfold outR at hO
  have h3 : t.length = p.l.length := by simp only [tableOk, Bool.and_eq_true, decide_eq_true_eq] at h2; exact h2.1
  obtain ⟨l, hl0⟩ : ∃ x, t[0]? = some x := ⟨_, List.getElem?_eq_getElem (show 0 < t.length by omega)⟩
  have a1 := ladE_at hl0
  have ht0 : 0 < t.length := by omega
  have hh : t.headD [] = l := by cases t with | nil => simp at hl0 | cons a b => simpa using hl0
  have hC := fun σ => C_CostR (σ := σ) (l := l) (hl l (List.mem_of_getElem? hl0)) (c := p.start)
  rw [hh]
  cases h4 : folIs p p.l ks p.start
  · simp only [h4, Bool.false_eq_true, if_false] at hO
    simp [-List.length_flatMap, -List.map_take, e_ref11_Shows_r0, e_ref11_Shows_r1, e_ref11_Shows_r2, e_ref11_Shows_r3, e_ref11_Shows_r4, hN, hR, h1, h2, hO]
  · simp only [h4, if_true] at hO
    rw [List.drop_zero] at a1
    have e1 : (costI l p.start == folCost p p.l ks p.start) = decide (costI l p.start = folCost p p.l ks p.start) := rfl
    simp [-List.length_flatMap, -List.map_take, e_ref11_Shows_r0, e_ref11_Shows_r1, e_ref11_Shows_r2, e_ref11_Shows_r3, e_ref11_Shows_r4, hN, hR, h1, h2, hO, ht0, a1, hC, e1]
end Go.Proofs.YtcccafphhmcifaaGreat
