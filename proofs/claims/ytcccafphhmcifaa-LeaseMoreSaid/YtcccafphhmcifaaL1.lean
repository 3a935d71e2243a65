/-
  Rules and royalties of layer 11, of the program and of the document.
-/
import Derived.Test.YtcccafphhmcifaaTab
import Derived.Test.YtcccafphhmcifaaLeaseSpec
set_option linter.unusedVariables false
set_option linter.unusedSimpArgs false
namespace Go.Proofs.Ytcccafphhmcifaa
open Go Go.Abs Go.Lease
variable {σ : Stack}

theorem C_within {a b c : Int} : lim T (.call false i_lease_within [.int .i64 a, .int .i64 b, .int .i64 c] σ) = some (.val (.bool (inn a b c)) σ) := by
  refine call_of T_lease_within e_lease_within rfl ?_
  by_cases h : b ≤ a <;> simp [-List.length_flatMap, -List.map_take, e_lease_within_r0, e_lease_within_r1, h, inn]
theorem C_In {a b c : Int} : lim T (.call false i_ref11_In [.int .i64 a, .int .i64 b, .int .i64 c] σ) = some (.val (.bool (inn a b c)) σ) := by
  refine call_of T_ref11_In e_ref11_In rfl ?_
  by_cases h : b ≤ a <;> simp [-List.length_flatMap, -List.map_take, e_ref11_In_r0, e_ref11_In_r1, h, inn]
theorem C_total {a : Int} : lim T (.call false i_lease_total [.int .i64 a] σ) = some (.val (.bool (inn a 0 1000000000000)) σ) := by
  refine call_of T_lease_total e_lease_total rfl ?_
  simp [-List.length_flatMap, -List.map_take, e_lease_total_r0, e_lease_total_r1, C_within]
/-- What stands ahead of a grade. -/
def Prev (l : List Gd) (i : Nat) (p : Int) : Prop := (i = 0 → p = 0) ∧ ∀ j, i = j + 1 → ∃ g, l[j]? = some g ∧ g.u = p
theorem prev_next {l : List Gd} {i : Nat} {g : Gd} (hx : l[i]? = some g) : Prev l (i + 1) g.u := ⟨fun h => by omega, fun j hj => ⟨g, by rw [show j = i by omega]; exact hx, rfl⟩⟩
theorem gds_at {l : List Gd} {i : Nat} {x : Gd} (hx : l[i]? = some x) : (l.flatMap Gd.enc).drop (i * 2) = .int .i64 x.u :: .int .i64 x.r :: (l.flatMap Gd.enc).drop (i * 2 + 2) := by
  have := k_drop (f := Gd.enc) (w := 2) (fun _ => rfl) hx
  simpa using this
theorem L_valid {r : Rl} (hl : r.l.length ≤ 100) : ∀ (m i : Nat) (p : Int), i + m = r.l.length → Prev r.l i p →
    WL T [1, 6, 7, 8] false f_lease_Rule_valid_l7 [(1, .cref [.int .i64 r.least, .lst r.l.length (r.l.flatMap Gd.enc)]), (6, .lst r.l.length (r.l.flatMap Gd.enc)), (7, .int .i64 r.l.length), (8, .int .i64 i)] σ
      (fun x e σ' => σ' = σ ∧ if gdsOk p (r.l.drop i) then x = .exit 0 ∧ get e 1 = .cref [.int .i64 r.least, .lst r.l.length (r.l.flatMap Gd.enc)] else x = .ret ∧ get e 2 = .bool false)
  | 0, i, p, hi, hp => by
    refine WL_step e_lease_Rule_valid_l7 ?_
    have h1 : ¬ i < r.l.length := by omega
    have h2 : r.l.drop i = [] := List.drop_eq_nil_of_le (by omega)
    rw [h2]
    simp [-List.length_flatMap, -List.map_take, e_lease_Rule_valid_r0, e_lease_Rule_valid_r1, e_lease_Rule_valid_r2, e_lease_Rule_valid_r3, e_lease_Rule_valid_r4, e_lease_Rule_valid_r5, e_lease_Rule_valid_r6, e_lease_Rule_valid_r8, h1, gdsOk]
  | m + 1, i, p, hi, hp => by
    refine WL_step e_lease_Rule_valid_l7 ?_
    have h1 : i < r.l.length := by omega
    obtain ⟨g, hx⟩ : ∃ x, r.l[i]? = some x := ⟨_, List.getElem?_eq_getElem h1⟩
    have a1 := gds_at hx
    have w1 := wnext h1 (by omega)
    have ih := L_valid hl m (i + 1) g.u (by omega) (prev_next hx)
    rw [dropS hx]
    have e1 : gdsOk p (g :: r.l.drop (i + 1)) = (gdOk p g && gdsOk g.u (r.l.drop (i + 1))) := rfl
    rw [e1]
    generalize hG : gdsOk g.u (r.l.drop (i + 1)) = G at *
    cases c1 : inn g.u 1 1000000000000
    · simp [-List.length_flatMap, -List.map_take, e_lease_Rule_valid_r0, e_lease_Rule_valid_r1, e_lease_Rule_valid_r2, e_lease_Rule_valid_r3, e_lease_Rule_valid_r4, e_lease_Rule_valid_r5, e_lease_Rule_valid_r6, e_lease_Rule_valid_r8, h1, a1, w1, C_within, c1, gdOk]
    cases c2 : inn g.r 0 1000
    · simp [-List.length_flatMap, -List.map_take, e_lease_Rule_valid_r0, e_lease_Rule_valid_r1, e_lease_Rule_valid_r2, e_lease_Rule_valid_r3, e_lease_Rule_valid_r4, e_lease_Rule_valid_r5, e_lease_Rule_valid_r6, e_lease_Rule_valid_r8, h1, a1, w1, C_within, c1, c2, gdOk]
    by_cases hz : 0 < i
    · obtain ⟨j, rfl⟩ : ∃ j, i = j + 1 := ⟨i - 1, by omega⟩
      obtain ⟨g', hx', rfl⟩ := hp.2 j rfl
      have a2 := gds_at hx'
      have hj : j < r.l.length := by omega
      have w2 : IntKind.i64.wrap (((j + 1 : Nat) : Int) - 1) = (j : Int) := by rw [show ((j + 1 : Nat) : Int) - 1 = j by omega]; exact w64 (by omega)
      generalize j + 1 = i at *
      by_cases c3 : g.u ≤ g'.u
      · simp [-List.length_flatMap, -List.map_take, e_lease_Rule_valid_r0, e_lease_Rule_valid_r1, e_lease_Rule_valid_r2, e_lease_Rule_valid_r3, e_lease_Rule_valid_r4, e_lease_Rule_valid_r5, e_lease_Rule_valid_r6, e_lease_Rule_valid_r8, h1, hj, a1, a2, w1, w2, hz, C_within, c1, c2, c3, gdOk]
      · simp [-List.length_flatMap, -List.map_take, e_lease_Rule_valid_r0, e_lease_Rule_valid_r1, e_lease_Rule_valid_r2, e_lease_Rule_valid_r3, e_lease_Rule_valid_r4, e_lease_Rule_valid_r5, e_lease_Rule_valid_r6, e_lease_Rule_valid_r8, h1, hj, a1, a2, w1, w2, hz, C_within, c1, c2, c3, gdOk]
        refine WL.to ih (by simp) rfl ?_
        exact fun x e σ' hh => by simpa [c1, c2, c3] using hh
    · have hp0 := hp.1 (by omega)
      subst hp0
      have c3 : ¬ g.u ≤ 0 := by have := inn_iff.1 c1; omega
      simp [-List.length_flatMap, -List.map_take, e_lease_Rule_valid_r0, e_lease_Rule_valid_r1, e_lease_Rule_valid_r2, e_lease_Rule_valid_r3, e_lease_Rule_valid_r4, e_lease_Rule_valid_r5, e_lease_Rule_valid_r6, e_lease_Rule_valid_r8, h1, a1, w1, hz, C_within, c1, c2, c3, gdOk]
      refine WL.to ih (by simp) rfl ?_
      exact fun x e σ' hh => by simpa [c1, c2, c3] using hh
theorem C_valid {r : Rl} (hl : r.l.length ≤ 100) : lim T (.call false i_lease_Rule_valid [.agg [.int .i64 r.least, .lst r.l.length (r.l.flatMap Gd.enc)]] σ) = some (.val (.bool (rlOk r)) σ) := by
  refine call_of T_lease_Rule_valid e_lease_Rule_valid rfl ?_
  simp [-List.length_flatMap, -List.map_take, e_lease_Rule_valid_r0, e_lease_Rule_valid_r1, e_lease_Rule_valid_r2, e_lease_Rule_valid_r3, e_lease_Rule_valid_r4, e_lease_Rule_valid_r5, e_lease_Rule_valid_r6, e_lease_Rule_valid_r8]
  refine WL.to (L_valid (σ := [] :: σ) hl r.l.length 0 0 (by omega) ⟨fun _ => rfl, fun j hj => by omega⟩) (by simp) rfl ?_
  rintro x e σ' ⟨rfl, hh⟩
  rw [List.drop_zero] at hh
  cases hg : gdsOk 0 r.l
  · rw [hg] at hh
    simp only [Bool.false_eq_true, if_false] at hh
    obtain ⟨rfl, g2⟩ := hh
    simp [g2, rlOk, hg]
  · rw [hg] at hh
    simp only [if_true] at hh
    obtain ⟨rfl, g1⟩ := hh
    cases c1 : inn r.least 0 1000000000000
    · simp [-List.length_flatMap, -List.map_take, e_lease_Rule_valid_r8, g1, C_total, C_within, c1, rlOk, hg]
    · simp [-List.length_flatMap, -List.map_take, e_lease_Rule_valid_r8, g1, C_total, C_within, c1, rlOk, hg]
theorem L_RightRule {r : Rl} (hl : r.l.length ≤ 100) : ∀ (m i : Nat) (p : Int), i + m = r.l.length → Prev r.l i p →
    WL T [1, 3] false f_ref11_RightRule_l7 [(1, .cref [.int .i64 r.least, .lst r.l.length (r.l.flatMap Gd.enc)]), (3, .int .i64 i)] σ
      (fun x e σ' => σ' = σ ∧ if gdsOk p (r.l.drop i) then x = .exit 0 ∧ get e 1 = .cref [.int .i64 r.least, .lst r.l.length (r.l.flatMap Gd.enc)] else x = .ret ∧ get e 2 = .bool false)
  | 0, i, p, hi, hp => by
    refine WL_step e_ref11_RightRule_l7 ?_
    have h1 : ¬ i < r.l.length := by omega
    have h2 : r.l.drop i = [] := List.drop_eq_nil_of_le (by omega)
    rw [h2]
    simp [-List.length_flatMap, -List.map_take, e_ref11_RightRule_r0, e_ref11_RightRule_r1, e_ref11_RightRule_r2, e_ref11_RightRule_r3, e_ref11_RightRule_r4, e_ref11_RightRule_r5, e_ref11_RightRule_r6, e_ref11_RightRule_r8, h1, gdsOk]
  | m + 1, i, p, hi, hp => by
    refine WL_step e_ref11_RightRule_l7 ?_
    have h1 : i < r.l.length := by omega
    obtain ⟨g, hx⟩ : ∃ x, r.l[i]? = some x := ⟨_, List.getElem?_eq_getElem h1⟩
    have a1 := gds_at hx
    have w1 := wnext h1 (by omega)
    have ih := L_RightRule hl m (i + 1) g.u (by omega) (prev_next hx)
    rw [dropS hx]
    have e1 : gdsOk p (g :: r.l.drop (i + 1)) = (gdOk p g && gdsOk g.u (r.l.drop (i + 1))) := rfl
    rw [e1]
    generalize hG : gdsOk g.u (r.l.drop (i + 1)) = G at *
    cases c1 : inn g.u 1 1000000000000
    · simp [-List.length_flatMap, -List.map_take, e_ref11_RightRule_r0, e_ref11_RightRule_r1, e_ref11_RightRule_r2, e_ref11_RightRule_r3, e_ref11_RightRule_r4, e_ref11_RightRule_r5, e_ref11_RightRule_r6, e_ref11_RightRule_r8, h1, a1, w1, C_In, c1, gdOk]
    cases c2 : inn g.r 0 1000
    · simp [-List.length_flatMap, -List.map_take, e_ref11_RightRule_r0, e_ref11_RightRule_r1, e_ref11_RightRule_r2, e_ref11_RightRule_r3, e_ref11_RightRule_r4, e_ref11_RightRule_r5, e_ref11_RightRule_r6, e_ref11_RightRule_r8, h1, a1, w1, C_In, c1, c2, gdOk]
    by_cases hz : 0 < i
    · obtain ⟨j, rfl⟩ : ∃ j, i = j + 1 := ⟨i - 1, by omega⟩
      obtain ⟨g', hx', rfl⟩ := hp.2 j rfl
      have a2 := gds_at hx'
      have hj : j < r.l.length := by omega
      have w2 : IntKind.i64.wrap (((j + 1 : Nat) : Int) - 1) = (j : Int) := by rw [show ((j + 1 : Nat) : Int) - 1 = j by omega]; exact w64 (by omega)
      generalize j + 1 = i at *
      by_cases c3 : g.u ≤ g'.u
      · simp [-List.length_flatMap, -List.map_take, e_ref11_RightRule_r0, e_ref11_RightRule_r1, e_ref11_RightRule_r2, e_ref11_RightRule_r3, e_ref11_RightRule_r4, e_ref11_RightRule_r5, e_ref11_RightRule_r6, e_ref11_RightRule_r8, h1, hj, a1, a2, w1, w2, hz, C_In, c1, c2, c3, gdOk]
      · simp [-List.length_flatMap, -List.map_take, e_ref11_RightRule_r0, e_ref11_RightRule_r1, e_ref11_RightRule_r2, e_ref11_RightRule_r3, e_ref11_RightRule_r4, e_ref11_RightRule_r5, e_ref11_RightRule_r6, e_ref11_RightRule_r8, h1, hj, a1, a2, w1, w2, hz, C_In, c1, c2, c3, gdOk]
        refine WL.to ih (by simp) rfl ?_
        exact fun x e σ' hh => by simpa [c1, c2, c3] using hh
    · have hp0 := hp.1 (by omega)
      subst hp0
      have c3 : ¬ g.u ≤ 0 := by have := inn_iff.1 c1; omega
      simp [-List.length_flatMap, -List.map_take, e_ref11_RightRule_r0, e_ref11_RightRule_r1, e_ref11_RightRule_r2, e_ref11_RightRule_r3, e_ref11_RightRule_r4, e_ref11_RightRule_r5, e_ref11_RightRule_r6, e_ref11_RightRule_r8, h1, a1, w1, hz, C_In, c1, c2, c3, gdOk]
      refine WL.to ih (by simp) rfl ?_
      exact fun x e σ' hh => by simpa [c1, c2, c3] using hh
theorem C_RightRule {r : Rl} (hl : r.l.length ≤ 100) : lim T (.call false i_ref11_RightRule [.agg [.int .i64 r.least, .lst r.l.length (r.l.flatMap Gd.enc)]] σ) = some (.val (.bool (rlOk r)) σ) := by
  refine call_of T_ref11_RightRule e_ref11_RightRule rfl ?_
  simp [-List.length_flatMap, -List.map_take, e_ref11_RightRule_r0, e_ref11_RightRule_r1, e_ref11_RightRule_r2, e_ref11_RightRule_r3, e_ref11_RightRule_r4, e_ref11_RightRule_r5, e_ref11_RightRule_r6, e_ref11_RightRule_r8]
  refine WL.to (L_RightRule (σ := [] :: σ) hl r.l.length 0 0 (by omega) ⟨fun _ => rfl, fun j hj => by omega⟩) (by simp) rfl ?_
  rintro x e σ' ⟨rfl, hh⟩
  rw [List.drop_zero] at hh
  cases hg : gdsOk 0 r.l
  · rw [hg] at hh
    simp only [Bool.false_eq_true, if_false] at hh
    obtain ⟨rfl, g2⟩ := hh
    simp [g2, rlOk, hg]
  · rw [hg] at hh
    simp only [if_true] at hh
    obtain ⟨rfl, g1⟩ := hh
    cases c1 : inn r.least 0 1000000000000
    · simp [-List.length_flatMap, -List.map_take, e_ref11_RightRule_r8, g1, C_In, c1, rlOk, hg]
    · by_cases c2 : 1 ≤ r.l.length
      · have c2' : (1 : Int) ≤ r.l.length := by omega
        by_cases c3 : (r.l.length : Int) ≤ 6
        · have c4 : inn r.l.length 1 6 = true := inn_iff.2 ⟨c2', c3⟩
          simp [-List.length_flatMap, -List.map_take, e_ref11_RightRule_r8, g1, C_In, c1, c2, c2', c3, c4, rlOk, hg]
        · have c4 : inn r.l.length 1 6 = false := inn_no (by omega)
          simp [-List.length_flatMap, -List.map_take, e_ref11_RightRule_r8, g1, C_In, c1, c2, c2', c3, c4, rlOk, hg]
      · have c2' : ¬ (1 : Int) ≤ r.l.length := by omega
        have c4 : inn r.l.length 1 6 = false := inn_no (by omega)
        simp [-List.length_flatMap, -List.map_take, e_ref11_RightRule_r8, g1, C_In, c1, c2, c2', c4, rlOk, hg]
/-- A rule made over for the program. -/
theorem L_Rule {r : Rl} (hl : r.l.length ≤ 100000) : ∀ (m j v : Nat), j + m = r.l.length →
    WL T [1, 2, 3, 4] false f_law11_Rule_l6 [(1, .cref [.int .i64 r.least, .lst r.l.length (r.l.flatMap Gd.enc)]), (2, .own 0 [.int .i64 0, .nils]), (3, .own 0 [.int .i64 r.least, .sl σ.length 0 v 0 j 2]), (4, .int .i64 j)]
      ([.cells v ((r.l.take j).flatMap Gd.enc)] :: σ)
      (fun x e σ' => ∃ v', x = .exit 0 ∧ get e 2 = .own 0 [.int .i64 0, .nils] ∧ get e 3 = .own 0 [.int .i64 r.least, .sl σ.length 0 v' 0 r.l.length 2] ∧ σ' = [.cells v' (r.l.flatMap Gd.enc)] :: σ)
  | 0, j, v, hi => by
    refine WL_step e_law11_Rule_l6 ?_
    have h1 : ¬ j < r.l.length := by omega
    have h3 : r.l.take j = r.l := List.take_of_length_le (by omega)
    have h4 : j = r.l.length := by omega
    subst h4
    simp [-List.length_flatMap, -List.map_take, e_law11_Rule_r0, e_law11_Rule_r1, e_law11_Rule_r2, e_law11_Rule_r3, e_law11_Rule_r4, e_law11_Rule_r5, e_law11_Rule_r7]
  | m + 1, j, v, hi => by
    refine WL_step e_law11_Rule_l6 ?_
    have h1 : j < r.l.length := by omega
    obtain ⟨x, hx⟩ : ∃ x, r.l[j]? = some x := ⟨_, List.getElem?_eq_getElem h1⟩
    have h2 := gds_at hx
    have h3 := flat_take (f := Gd.enc) (w := 2) (fun _ => rfl) (Nat.le_of_lt h1)
    have h4 := flat_snoc (f := Gd.enc) hx
    have h5 := flat_len (f := Gd.enc) (w := 2) (fun _ => rfl) (r.l.take j)
    have h6 := wnext h1 (by omega)
    have h7 : (j + 1) * 16 ≤ room := by unfold room; omega
    have h8 : min j r.l.length = j := by omega
    have ih := L_Rule hl m (j + 1) (v + 1) (by omega)
    simp [-List.length_flatMap, -List.map_take, e_law11_Rule_r0, e_law11_Rule_r1, e_law11_Rule_r2, e_law11_Rule_r3, e_law11_Rule_r4, e_law11_Rule_r5, e_law11_Rule_r7, h1, h2, h3, h5, h6, h7, h8]
    refine WL.to ih (by simp) (by simp [← h4]) fun x e σ hh => hh
theorem C_Rule {r : Rl} (hl : r.l.length ≤ 100000) (hσ : σ ≠ []) : lim T (.call false i_law11_Rule [.agg [.int .i64 r.least, .lst r.l.length (r.l.flatMap Gd.enc)]] σ) = some (.val (.agg [.int .i64 r.least, .lst r.l.length (r.l.flatMap Gd.enc)]) σ) := by
  refine call_of T_law11_Rule e_law11_Rule rfl ?_
  simp [-List.length_flatMap, -List.map_take, e_law11_Rule_r0, e_law11_Rule_r1, e_law11_Rule_r2, e_law11_Rule_r3, e_law11_Rule_r4, e_law11_Rule_r5, e_law11_Rule_r7]
  refine WL.to (L_Rule (σ := σ) hl r.l.length 0 0 (by omega)) (by simp) (by simp) ?_
  rintro x e σ' ⟨v', rfl, g2, g3, rfl⟩
  simp [-List.length_flatMap, -List.map_take, e_law11_Rule_r7, g2, g3]
  have h3 : ¬ σ.length ≤ σ.length - 1 := by have := List.length_pos_iff.2 hσ; omega
  have h6 := k_self (f := Gd.enc) (w := 2) (fun _ => rfl) r.l
  have h5 : D.cleanL (r.l.flatMap Gd.enc) = true := k_clean (fun x => by simp) _
  rw [frz_agg (by simp) (by omega)]
  simp only [frzL_cons, frzL_nil]
  rw [frz_sl h3 (cs := r.l.flatMap Gd.enc) (by simp) (by omega)]
  simp [h6, h5]
theorem L_roy {r : Rl} (hl : r.l.length ≤ 6) (hg : gdsOk 0 r.l = true) {kg price : Int} (hk : 0 ≤ kg ∧ kg ≤ 1000000000000) : ∀ (m i : Nat) (p n fr : Int), i + m = r.l.length → gdsOk p (r.l.drop i) = true → 0 ≤ fr → fr ≤ kg → 0 ≤ n → n ≤ 1000 * fr →
    WL T [1, 2, 3, 8, 9, 27, 28, 29] false f_lease_Royalty_l15 [(1, .int .i64 kg), (2, .int .i64 price), (3, .cref [.int .i64 r.least, .lst r.l.length (r.l.flatMap Gd.enc)]), (8, .int .i64 n), (9, .int .i64 fr), (27, .lst r.l.length (r.l.flatMap Gd.enc)), (28, .int .i64 r.l.length), (29, .int .i64 i)] σ
      (fun x e σ' => σ' = σ ∧ x = .exit 1 ∧ get e 2 = .int .i64 price ∧ get e 3 = .cref [.int .i64 r.least, .lst r.l.length (r.l.flatMap Gd.enc)] ∧ get e 8 = .int .i64 (royP kg (r.l.drop i) n fr))
  | 0, i, p, n, fr, hi, hd, h0, h1, h2, h3 => by
    refine WL_step e_lease_Royalty_l15 ?_
    have h4 : ¬ i < r.l.length := by omega
    have h5 : r.l.drop i = [] := List.drop_eq_nil_of_le (by omega)
    rw [h5]
    simp [-List.length_flatMap, -List.map_take, e_lease_Royalty_r0, e_lease_Royalty_r1, e_lease_Royalty_r2, e_lease_Royalty_r3, e_lease_Royalty_r4, e_lease_Royalty_r5, e_lease_Royalty_r6, e_lease_Royalty_r7, e_lease_Royalty_r8, e_lease_Royalty_r9, e_lease_Royalty_r10, e_lease_Royalty_r11, e_lease_Royalty_r12, e_lease_Royalty_r13, e_lease_Royalty_r14, e_lease_Royalty_r16, h4, royP]
  | m + 1, i, p, n, fr, hi, hd, h0, h1, h2, h3 => by
    refine WL_step e_lease_Royalty_l15 ?_
    have h4 : i < r.l.length := by omega
    obtain ⟨g, hx⟩ : ∃ x, r.l[i]? = some x := ⟨_, List.getElem?_eq_getElem h4⟩
    have a1 := gds_at hx
    have w1 := wnext h4 (by omega)
    obtain ⟨q, hq⟩ : ∃ q, q = (r.l.length : Int) - 1 := ⟨_, rfl⟩
    have w2 : IntKind.i64.wrap ((r.l.length : Int) - 1) = q := by rw [hq]; exact w64 (by omega)
    rw [dropS hx] at hd ⊢
    simp only [gdsOk, Bool.and_eq_true] at hd
    have hgd := gdOk_iff.1 hd.1
    have hlast : (r.l.drop (i + 1) = []) ↔ ((i : Int) = q) := by
      rw [List.drop_eq_nil_iff]
      omega
    rw [royP]
    obtain ⟨to, hto⟩ : ∃ to, (if r.l.drop (i + 1) = [] then kg else min g.u kg) = to := ⟨_, rfl⟩
    rw [hto]
    have hto1 : to ≤ kg := by rw [← hto]; split <;> omega
    have hm := mul1000 (a := max 0 (to - fr)) (by omega) hgd.2.1
    have ih := L_roy (price := price) hl hg hk m (i + 1) g.u (n + max 0 (to - fr) * g.r) (max fr to) (by omega) hd.2 (by omega) (by omega) (by omega) (by omega)
    have w3 := w64 (n := to - fr) (by omega)
    have w4 := w64 (n := max 0 (to - fr) * g.r) (by omega)
    have w5 := w64 (n := n + max 0 (to - fr) * g.r) (by omega)
    by_cases hL : (i : Int) = q
    · rw [if_pos (hlast.2 hL)] at hto
      subst hto
      rw [← hL] at w2
      simp [-List.length_flatMap, -List.map_take, e_lease_Royalty_r0, e_lease_Royalty_r1, e_lease_Royalty_r2, e_lease_Royalty_r3, e_lease_Royalty_r4, e_lease_Royalty_r5, e_lease_Royalty_r6, e_lease_Royalty_r7, e_lease_Royalty_r8, e_lease_Royalty_r9, e_lease_Royalty_r10, e_lease_Royalty_r11, e_lease_Royalty_r12, e_lease_Royalty_r13, e_lease_Royalty_r14, e_lease_Royalty_r16, h4, a1, w1, w2, w3, w4, w5]
      refine WL.to ih (by simp) rfl ?_
      exact fun x e σ' hh => hh
    · rw [if_neg (fun h => hL (hlast.1 h))] at hto
      simp [-List.length_flatMap, -List.map_take, e_lease_Royalty_r0, e_lease_Royalty_r1, e_lease_Royalty_r2, e_lease_Royalty_r3, e_lease_Royalty_r4, e_lease_Royalty_r5, e_lease_Royalty_r6, e_lease_Royalty_r7, e_lease_Royalty_r8, e_lease_Royalty_r9, e_lease_Royalty_r10, e_lease_Royalty_r11, e_lease_Royalty_r12, e_lease_Royalty_r13, e_lease_Royalty_r14, e_lease_Royalty_r16, h4, a1, w1, w2, hL, hto, w3, w4, w5]
      refine WL.to ih (by simp) rfl ?_
      exact fun x e σ' hh => hh
theorem tdivM {a : Int} (h : 0 ≤ a) : a.tdiv 1000000 = a / 1000000 := Int.tdiv_eq_ediv_of_nonneg h
theorem roy_bd {r : Rl} (hg : gdsOk 0 r.l = true) {kg price : Int} (hk : 0 ≤ kg ∧ kg ≤ 1000000000000) (hp : 0 ≤ price ∧ price ≤ 1000) : 0 ≤ royF kg r.l 0 * price ∧ royF kg r.l 0 * price ≤ 1000000000000000000 := by
  have h1 := royF_bd r.l 0 hk.1 hg
  have := mul1000 (r := price) h1.1 hp
  omega
/-- The royalty, of the program. -/
def royD (r : Rl) (kg price : Int) : D := if rlOk r then (if inn kg 0 1000000000000 && inn price 0 1000 then .tup [.int .i64 (roy r kg price), .int .i64 0] else .tup [.int .i64 0, .int .i64 2]) else .tup [.int .i64 0, .int .i64 1]
theorem C_Royalty {r : Rl} (hl : r.l.length ≤ 100) {kg price : Int} : lim T (.call false i_lease_Royalty [.agg [.int .i64 r.least, .lst r.l.length (r.l.flatMap Gd.enc)], .int .i64 kg, .int .i64 price] σ) = some (.val (royD r kg price) σ) := by
  refine call_of T_lease_Royalty e_lease_Royalty rfl ?_
  have hV := fun σ => @C_valid σ r hl
  unfold royD
  cases c1 : rlOk r
  · simp [-List.length_flatMap, -List.map_take, e_lease_Royalty_r0, e_lease_Royalty_r1, e_lease_Royalty_r2, e_lease_Royalty_r3, e_lease_Royalty_r4, e_lease_Royalty_r5, e_lease_Royalty_r6, e_lease_Royalty_r7, e_lease_Royalty_r8, e_lease_Royalty_r9, e_lease_Royalty_r10, e_lease_Royalty_r11, e_lease_Royalty_r12, e_lease_Royalty_r13, e_lease_Royalty_r14, e_lease_Royalty_r16, hV, c1]
  cases c2 : inn kg 0 1000000000000
  · simp [-List.length_flatMap, -List.map_take, e_lease_Royalty_r0, e_lease_Royalty_r1, e_lease_Royalty_r2, e_lease_Royalty_r3, e_lease_Royalty_r4, e_lease_Royalty_r5, e_lease_Royalty_r6, e_lease_Royalty_r7, e_lease_Royalty_r8, e_lease_Royalty_r9, e_lease_Royalty_r10, e_lease_Royalty_r11, e_lease_Royalty_r12, e_lease_Royalty_r13, e_lease_Royalty_r14, e_lease_Royalty_r16, hV, c1, C_total, C_within, c2]
  cases c3 : inn price 0 1000
  · simp [-List.length_flatMap, -List.map_take, e_lease_Royalty_r0, e_lease_Royalty_r1, e_lease_Royalty_r2, e_lease_Royalty_r3, e_lease_Royalty_r4, e_lease_Royalty_r5, e_lease_Royalty_r6, e_lease_Royalty_r7, e_lease_Royalty_r8, e_lease_Royalty_r9, e_lease_Royalty_r10, e_lease_Royalty_r11, e_lease_Royalty_r12, e_lease_Royalty_r13, e_lease_Royalty_r14, e_lease_Royalty_r16, hV, c1, C_total, C_within, c2, c3]
  simp only [rlOk, Bool.and_eq_true, inn_iff] at c1
  have hk := inn_iff.1 c2
  have hp := inn_iff.1 c3
  have c1' : rlOk r = true := by simp only [rlOk, Bool.and_eq_true, inn_iff]; exact c1
  simp [-List.length_flatMap, -List.map_take, e_lease_Royalty_r0, e_lease_Royalty_r1, e_lease_Royalty_r2, e_lease_Royalty_r3, e_lease_Royalty_r4, e_lease_Royalty_r5, e_lease_Royalty_r6, e_lease_Royalty_r7, e_lease_Royalty_r8, e_lease_Royalty_r9, e_lease_Royalty_r10, e_lease_Royalty_r11, e_lease_Royalty_r12, e_lease_Royalty_r13, e_lease_Royalty_r14, e_lease_Royalty_r16, hV, c1', C_total, C_within, c2, c3]
  refine WL.to (L_roy (σ := [] :: σ) (price := price) (by omega) c1.1 hk r.l.length 0 0 0 0 (by omega) c1.1 (by omega) hk.1 (by omega) (by omega)) (by simp) rfl ?_
  rintro x e σ' ⟨rfl, rfl, g2, g3, g8⟩
  rw [List.drop_zero, royP_eq r.l 0 0 hk.1 c1.1, Int.zero_add] at g8
  have hb := roy_bd c1.1 hk hp
  have w1 := w64 (n := royF kg r.l 0 * price) (by omega)
  have w2 := w64 (n := royF kg r.l 0 * price / 1000000) (by omega)
  have w3 := tdivM hb.1
  simp [-List.length_flatMap, -List.map_take, e_lease_Royalty_r16, g2, g3, g8, w1, w2, w3, roy]
theorem L_Roy {r : Rl} (hl : r.l.length ≤ 6) (hg : gdsOk 0 r.l = true) {kg price : Int} (hk : 0 ≤ kg ∧ kg ≤ 1000000000000) (hp : 0 ≤ price ∧ price ≤ 1000) : ∀ (m i : Nat) (p n fr : Int), i + m = r.l.length → gdsOk p (r.l.drop i) = true → r.l.drop i ≠ [] → 0 ≤ fr → fr ≤ p → fr ≤ kg → fr = p ∨ i = 0 → 0 ≤ n → n ≤ 1000 * fr →
    WL T [1, 2, 3, 7, 8, 9] false f_ref11_Royalty_l10 [(1, .int .i64 kg), (2, .int .i64 price), (3, .cref [.int .i64 r.least, .lst r.l.length (r.l.flatMap Gd.enc)]), (7, .int .i64 n), (8, .int .i64 fr), (9, .int .i64 i)] σ
      (fun x e σ' => σ' = σ ∧ x = .ret ∧ get e 6 = .int .i64 (max r.least ((n + royF kg (r.l.drop i) fr) * price / 1000000)))
  | 0, i, p, n, fr, hi, hd, hne, h0, h1, h2, h3, h5, h6 => by
    exact absurd (List.drop_eq_nil_of_le (by omega)) hne
  | m + 1, i, p, n, fr, hi, hd, hne, h0, h1, h2, h3, h5, h6 => by
    refine WL_step e_ref11_Royalty_l10 ?_
    have h4 : i < r.l.length := by omega
    obtain ⟨g, hx⟩ : ∃ x, r.l[i]? = some x := ⟨_, List.getElem?_eq_getElem h4⟩
    have a1 := gds_at hx
    have w1 := wnext h4 (by omega)
    obtain ⟨q, hq⟩ : ∃ q, q = (r.l.length : Int) - 1 := ⟨_, rfl⟩
    have w2 : IntKind.i64.wrap ((r.l.length : Int) - 1) = q := by rw [hq]; exact w64 (by omega)
    rw [dropS hx] at hd ⊢
    simp only [gdsOk, Bool.and_eq_true] at hd
    have hgd := gdOk_iff.1 hd.1
    have hlast : (r.l.drop (i + 1) = []) ↔ ¬ ((i : Int) < q) := by
      rw [List.drop_eq_nil_iff]
      omega
    have fin : (n + (kg - fr) * g.r) * price ≤ 1000000000000000000 ∧ 0 ≤ (n + (kg - fr) * g.r) * price ∧ (0 ≤ (kg - fr) * g.r ∧ (kg - fr) * g.r ≤ 1000 * (kg - fr)) := by
      have hm := mul1000 (a := kg - fr) (by omega) hgd.2.1
      have := mul1000 (a := n + (kg - fr) * g.r) (r := price) (by omega) hp
      omega
    have f1 := w64 (n := kg - fr) (by omega)
    have f2 := w64 (n := (kg - fr) * g.r) (by omega)
    have f3 := w64 (n := n + (kg - fr) * g.r) (by omega)
    have f4 := w64 (n := (n + (kg - fr) * g.r) * price) (by omega)
    have f5 := w64 (n := (n + (kg - fr) * g.r) * price / 1000000) (by omega)
    have f6 := tdivM fin.2.1
    rw [royF]
    by_cases hu : g.u < kg
    · by_cases hL : (i : Int) < q
      · have hne2 : ¬ r.l.drop (i + 1) = [] := fun h => (hlast.1 h) hL
        have hm := mul1000 (a := g.u - fr) (by omega) hgd.2.1
        have ih := L_Roy (price := price) hl hg hk hp m (i + 1) g.u (n + (g.u - fr) * g.r) g.u (by omega) hd.2 hne2 (by omega) (by omega) (by omega) (.inl rfl) (by omega) (by omega)
        have v1 := w64 (n := g.u - fr) (by omega)
        have v2 := w64 (n := (g.u - fr) * g.r) (by omega)
        have v3 := w64 (n := n + (g.u - fr) * g.r) (by omega)
        rw [if_neg (by simp only [not_or]; exact ⟨hne2, by omega⟩)]
        simp [-List.length_flatMap, -List.map_take, e_ref11_Royalty_r0, e_ref11_Royalty_r1, e_ref11_Royalty_r2, e_ref11_Royalty_r3, e_ref11_Royalty_r4, e_ref11_Royalty_r5, e_ref11_Royalty_r6, e_ref11_Royalty_r7, e_ref11_Royalty_r8, e_ref11_Royalty_r9, e_ref11_Royalty_r11, h4, a1, w1, w2, hu, hL, v1, v2, v3]
        refine WL.to ih (by simp) rfl ?_
        exact fun x e σ' hh => by simpa [Int.add_assoc] using hh
      · rw [if_pos (.inl (hlast.2 hL))]
        simp [-List.length_flatMap, -List.map_take, e_ref11_Royalty_r0, e_ref11_Royalty_r1, e_ref11_Royalty_r2, e_ref11_Royalty_r3, e_ref11_Royalty_r4, e_ref11_Royalty_r5, e_ref11_Royalty_r6, e_ref11_Royalty_r7, e_ref11_Royalty_r8, e_ref11_Royalty_r9, e_ref11_Royalty_r11, h4, a1, w1, w2, hu, hL, f1, f2, f3, f4, f5, f6]
    · rw [if_pos (.inr (by omega))]
      simp [-List.length_flatMap, -List.map_take, e_ref11_Royalty_r0, e_ref11_Royalty_r1, e_ref11_Royalty_r2, e_ref11_Royalty_r3, e_ref11_Royalty_r4, e_ref11_Royalty_r5, e_ref11_Royalty_r6, e_ref11_Royalty_r7, e_ref11_Royalty_r8, e_ref11_Royalty_r9, e_ref11_Royalty_r11, h4, a1, w1, w2, hu, f1, f2, f3, f4, f5, f6]
theorem C_RoyaltyR {r : Rl} (h : rlOk r = true) {kg price : Int} (hk : 0 ≤ kg ∧ kg ≤ 1000000000000) (hp : 0 ≤ price ∧ price ≤ 1000) :
    lim T (.call false i_ref11_Royalty [.agg [.int .i64 r.least, .lst r.l.length (r.l.flatMap Gd.enc)], .int .i64 kg, .int .i64 price] σ) = some (.val (.int .i64 (roy r kg price)) σ) := by
  refine call_of T_ref11_Royalty e_ref11_Royalty rfl ?_
  simp only [rlOk, Bool.and_eq_true, inn_iff] at h
  have hne : r.l.drop 0 ≠ [] := by
    rw [List.drop_zero]
    intro hh
    rw [hh] at h
    simp at h
  simp [-List.length_flatMap, -List.map_take, e_ref11_Royalty_r0, e_ref11_Royalty_r1, e_ref11_Royalty_r2, e_ref11_Royalty_r3, e_ref11_Royalty_r4, e_ref11_Royalty_r5, e_ref11_Royalty_r6, e_ref11_Royalty_r7, e_ref11_Royalty_r8, e_ref11_Royalty_r9, e_ref11_Royalty_r11]
  refine WL.to (L_Roy (σ := [] :: σ) (by omega) h.1 hk hp r.l.length 0 0 0 0 (by omega) (by rw [List.drop_zero]; exact h.1) hne (by omega) (by omega) hk.1 (.inl rfl) (by omega) (by omega)) (by simp) rfl ?_
  rintro x e σ' ⟨rfl, rfl, g6⟩
  rw [List.drop_zero, Int.zero_add] at g6
  simp [g6, roy]
end Go.Proofs.Ytcccafphhmcifaa
