/-
  Concessions of layer 11: the law's copies and the document's words.
-/
import Derived.Test.YtcccafphhmcifaaD1
set_option linter.unusedVariables false
set_option linter.unusedSimpArgs false
namespace Go.Proofs.Ytcccafphhmcifaa
open Go Go.Abs Go.Lease
variable {σ : Stack}

@[simp] theorem ci {l : List Int} : D.cleanL (l.flatMap intE) = true := k_clean (fun x => by simp) _
@[simp] theorem cr {l : List (List Int)} : D.cleanL (l.flatMap rowE) = true := k_clean (fun x => by simp) _
theorem frz_ownN {l n s : Nat} {cs : List D} {σ : Stack} (h : D.cleanL cs = false) (hn : 0 < n) : frz l n (.own s cs) σ = (.own s (frz.frzL (frz l (n - 1)) cs σ).1, (frz.frzL (frz l (n - 1)) cs σ).2) := by
  obtain ⟨m, rfl⟩ : ∃ m, n = m + 1 := ⟨n - 1, by omega⟩
  conv => lhs; unfold frz
  simp [h]
def fewB (c : Cn) : Bool := allB c.l (fun r => decide ((r.length : Int) ≤ 12)) && decide ((c.l.length : Int) ≤ 25)
theorem fewB_iff {c : Cn} : fewB c = true ↔ Few c := by
  simp only [fewB, Bool.and_eq_true, allB_iff, decide_eq_true_eq, Few]
  constructor
  · rintro ⟨h1, h2⟩; exact ⟨by omega, fun r hr => by have := h1 r hr; omega⟩
  · rintro ⟨h1, h2⟩; exact ⟨fun r hr => by have := h2 r hr; omega, by omega⟩
theorem L_few {c : Cn} (hl : c.l.length ≤ 9223372036854775807) : ∀ (m i : Nat), i + m = c.l.length →
    WL T [1, 3] false f_law11_few_l6 [(1, .cref [.int .i64 c.h, .lst c.l.length (c.l.flatMap rowE)]), (3, .int .i64 i)] σ
      (fun x e σ' => σ' = σ ∧ if allB (c.l.drop i) (fun r => decide ((r.length : Int) ≤ 12)) then x = .exit 0 ∧ get e 1 = .cref [.int .i64 c.h, .lst c.l.length (c.l.flatMap rowE)] else x = .ret ∧ get e 2 = .bool false)
  | 0, i, hi => by
    refine WL_step e_law11_few_l6 ?_
    have h1 : ¬ i < c.l.length := by omega
    have h2 : c.l.drop i = [] := List.drop_eq_nil_of_le (by omega)
    rw [h2]
    simp [-List.length_flatMap, -List.map_take, e_law11_few_r0, e_law11_few_r1, e_law11_few_r2, e_law11_few_r3, e_law11_few_r4, e_law11_few_r5, e_law11_few_r7, h1, allB_nil]
  | m + 1, i, hi => by
    refine WL_step e_law11_few_l6 ?_
    have h1 : i < c.l.length := by omega
    obtain ⟨r, hr⟩ : ∃ x, c.l[i]? = some x := ⟨_, List.getElem?_eq_getElem h1⟩
    have a1 := row_at hr
    have w1 := wnext h1 hl
    have ih := L_few hl m (i + 1) (by omega)
    rw [dropS hr, allB_cons]
    by_cases h2 : (12 : Int) < r.length
    · have h3 : ¬ (r.length : Int) ≤ 12 := by omega
      simp [-List.length_flatMap, -List.map_take, e_law11_few_r0, e_law11_few_r1, e_law11_few_r2, e_law11_few_r3, e_law11_few_r4, e_law11_few_r5, e_law11_few_r7, h1, a1, w1, h2, h3]
    · have h3 : (r.length : Int) ≤ 12 := by omega
      simp [-List.length_flatMap, -List.map_take, e_law11_few_r0, e_law11_few_r1, e_law11_few_r2, e_law11_few_r3, e_law11_few_r4, e_law11_few_r5, e_law11_few_r7, h1, a1, w1, h2, h3]
      exact WL.to ih (by simp) rfl fun x e σ hh => by simpa [h3] using hh
theorem C_few {c : Cn} (hl : c.l.length ≤ 9223372036854775807) : lim T (.call false i_law11_few [cnD c] σ) = some (.val (.bool (fewB c)) σ) := by
  refine call_of T_law11_few e_law11_few rfl ?_
  simp [-List.length_flatMap, -List.map_take, e_law11_few_r0, e_law11_few_r1, e_law11_few_r2, e_law11_few_r3, e_law11_few_r4, e_law11_few_r5, e_law11_few_r7]
  refine WL.to (L_few (σ := [] :: σ) hl c.l.length 0 (by omega)) (by simp) rfl ?_
  rintro x e σ' ⟨rfl, hh⟩
  rw [List.drop_zero] at hh
  unfold fewB
  cases h : allB c.l (fun r => decide ((r.length : Int) ≤ 12))
  · rw [h] at hh
    simp only [Bool.false_eq_true, if_false] at hh
    obtain ⟨rfl, g2⟩ := hh
    simp [g2]
  · rw [h] at hh
    simp only [if_true] at hh
    obtain ⟨rfl, g1⟩ := hh
    simp [-List.length_flatMap, -List.map_take, e_law11_few_r7, g1]
theorem L_Right2 {c : Cn} {i : Nat} {r : List Int} (hi : c.l[i]? = some r) (hr : r.length ≤ 12) (hl : c.l.length ≤ 25) : ∀ (m h : Nat) (s : Int), h + m = r.length → 0 ≤ s → s ≤ 1000 * h →
    WL T [1, 3, 4, 5] false f_ref11_Right_l12 [(1, .cref [.int .i64 c.h, .lst c.l.length (c.l.flatMap rowE)]), (3, .int .i64 i), (4, .int .i64 s), (5, .int .i64 h)] σ
      (fun x e σ' => σ' = σ ∧ if allB (r.drop h) (fun n => inn n 0 1000) then x = .exit 2 ∧ get e 1 = .cref [.int .i64 c.h, .lst c.l.length (c.l.flatMap rowE)] ∧ get e 3 = .int .i64 i ∧ get e 4 = .int .i64 (s + sumI (r.drop h)) else x = .ret ∧ get e 2 = .bool false)
  | 0, h, s, hh, s0, s1 => by
    refine WL_step e_ref11_Right_l12 ?_
    have h0 : i < c.l.length := (List.getElem?_eq_some_iff.1 hi).1
    have h1 : ¬ h < r.length := by omega
    have h2 : r.drop h = [] := List.drop_eq_nil_of_le (by omega)
    have a1 := row_at hi
    rw [h2]
    simp [-List.length_flatMap, -List.map_take, e_ref11_Right_r0, e_ref11_Right_r1, e_ref11_Right_r2, e_ref11_Right_r3, e_ref11_Right_r4, e_ref11_Right_r5, e_ref11_Right_r6, e_ref11_Right_r7, e_ref11_Right_r8, e_ref11_Right_r9, e_ref11_Right_r10, e_ref11_Right_r11, e_ref11_Right_r13, e_ref11_Right_r14, e_ref11_Right_r15, e_ref11_Right_r17, h0, h1, a1, allB_nil, sumI]
  | m + 1, h, s, hh, s0, s1 => by
    refine WL_step e_ref11_Right_l12 ?_
    have h0 : i < c.l.length := (List.getElem?_eq_some_iff.1 hi).1
    have h1 : h < r.length := by omega
    obtain ⟨n, hn⟩ : ∃ x, r[h]? = some x := ⟨_, List.getElem?_eq_getElem h1⟩
    have a1 := row_at hi
    have a2 := int_at hn
    have w1 := wnext h1 (by omega)
    rw [dropS hn, allB_cons]
    cases h2 : inn n 0 1000
    · simp [-List.length_flatMap, -List.map_take, e_ref11_Right_r0, e_ref11_Right_r1, e_ref11_Right_r2, e_ref11_Right_r3, e_ref11_Right_r4, e_ref11_Right_r5, e_ref11_Right_r6, e_ref11_Right_r7, e_ref11_Right_r8, e_ref11_Right_r9, e_ref11_Right_r10, e_ref11_Right_r11, e_ref11_Right_r13, e_ref11_Right_r14, e_ref11_Right_r15, e_ref11_Right_r17, h0, h1, a1, a2, w1, D_In, h2]
    · have hb := inn_iff.1 h2
      have w2 := w64 (n := s + n) (by omega)
      have ih := L_Right2 hi hr hl m (h + 1) (s + n) (by omega) (by omega) (by omega)
      simp [-List.length_flatMap, -List.map_take, e_ref11_Right_r0, e_ref11_Right_r1, e_ref11_Right_r2, e_ref11_Right_r3, e_ref11_Right_r4, e_ref11_Right_r5, e_ref11_Right_r6, e_ref11_Right_r7, e_ref11_Right_r8, e_ref11_Right_r9, e_ref11_Right_r10, e_ref11_Right_r11, e_ref11_Right_r13, e_ref11_Right_r14, e_ref11_Right_r15, e_ref11_Right_r17, h0, h1, a1, a2, w1, w2, D_In, h2]
      refine WL.to ih (by simp) rfl fun x e σ hh => by simpa [sumI, Int.add_assoc, h2] using hh
theorem L_Right {c : Cn} (hc : Few c) : ∀ (m i : Nat), i + m = c.l.length →
    WL T [1, 3] false f_ref11_Right_l16 [(1, .cref [.int .i64 c.h, .lst c.l.length (c.l.flatMap rowE)]), (3, .int .i64 i)] σ
      (fun x e σ' => σ' = σ ∧ if allB (c.l.drop i) (rowOk c.h) then x = .exit 0 else x = .ret ∧ get e 2 = .bool false)
  | 0, i, hi => by
    refine WL_step e_ref11_Right_l16 ?_
    have h1 : ¬ i < c.l.length := by omega
    have h2 : c.l.drop i = [] := List.drop_eq_nil_of_le (by omega)
    rw [h2]
    simp [-List.length_flatMap, -List.map_take, e_ref11_Right_r0, e_ref11_Right_r1, e_ref11_Right_r2, e_ref11_Right_r3, e_ref11_Right_r4, e_ref11_Right_r5, e_ref11_Right_r6, e_ref11_Right_r7, e_ref11_Right_r8, e_ref11_Right_r9, e_ref11_Right_r10, e_ref11_Right_r11, e_ref11_Right_r13, e_ref11_Right_r14, e_ref11_Right_r15, e_ref11_Right_r17, h1, allB_nil]
  | m + 1, i, hi => by
    refine WL_step e_ref11_Right_l16 ?_
    have h1 : i < c.l.length := by omega
    obtain ⟨r, hr⟩ : ∃ x, c.l[i]? = some x := ⟨_, List.getElem?_eq_getElem h1⟩
    have hrl := hc.2 r (List.mem_of_getElem? hr)
    have hll := hc.1
    have a1 := row_at hr
    have w1 := wnext h1 (by omega)
    have ih := L_Right hc m (i + 1) (by omega)
    rw [dropS hr, allB_cons]
    simp [-List.length_flatMap, -List.map_take, e_ref11_Right_r0, e_ref11_Right_r1, e_ref11_Right_r2, e_ref11_Right_r3, e_ref11_Right_r4, e_ref11_Right_r5, e_ref11_Right_r6, e_ref11_Right_r7, e_ref11_Right_r8, e_ref11_Right_r9, e_ref11_Right_r10, e_ref11_Right_r11, e_ref11_Right_r13, e_ref11_Right_r14, e_ref11_Right_r15, e_ref11_Right_r17, h1]
    refine WL.to (L_Right2 hr hrl hc.1 r.length 0 0 (by omega) (by omega) (by omega)) (by simp) rfl ?_
    rintro x e σ' ⟨rfl, hh⟩
    rw [List.drop_zero] at hh
    cases h2 : allB r (fun n => inn n 0 1000)
    · rw [h2] at hh
      simp only [Bool.false_eq_true, if_false] at hh
      obtain ⟨rfl, g2⟩ := hh
      simp [g2, rowOk, h2]
    · rw [h2] at hh
      simp only [if_true] at hh
      obtain ⟨rfl, g1, g3, g4⟩ := hh
      rw [Int.zero_add] at g4
      by_cases h3 : (r.length : Int) = c.h
      · by_cases h4 : sumI r ≤ 1000
        · have h5 : ¬ 1000 < sumI r := by omega
          simp [-List.length_flatMap, -List.map_take, e_ref11_Right_r13, e_ref11_Right_r14, e_ref11_Right_r15, g1, g3, g4, h1, a1, w1, h3, h4, h5, rowOk, h2]
          exact WL.to ih (by simp) rfl fun x e σ hh => by simpa [h2, h3, h4] using hh
        · have h5 : 1000 < sumI r := by omega
          simp [-List.length_flatMap, -List.map_take, e_ref11_Right_r13, e_ref11_Right_r14, e_ref11_Right_r15, g1, g3, g4, h1, a1, w1, h3, h4, h5, rowOk, h2]
      · simp [-List.length_flatMap, -List.map_take, e_ref11_Right_r13, e_ref11_Right_r14, e_ref11_Right_r15, g1, g3, g4, h1, a1, w1, h3, rowOk, h2]
theorem C_Right {c : Cn} (hc : Few c) : lim T (.call false i_ref11_Right [cnD c] σ) = some (.val (.bool (cnOk c)) σ) := by
  refine call_of T_ref11_Right e_ref11_Right rfl ?_
  cases h1 : inn c.h 1 8
  · simp [-List.length_flatMap, -List.map_take, e_ref11_Right_r0, e_ref11_Right_r1, e_ref11_Right_r2, e_ref11_Right_r3, e_ref11_Right_r4, e_ref11_Right_r5, e_ref11_Right_r6, e_ref11_Right_r7, e_ref11_Right_r8, e_ref11_Right_r9, e_ref11_Right_r10, e_ref11_Right_r11, e_ref11_Right_r13, e_ref11_Right_r14, e_ref11_Right_r15, e_ref11_Right_r17, D_In, h1, cnOk]
  cases h2 : inn c.l.length 1 20
  · simp [-List.length_flatMap, -List.map_take, e_ref11_Right_r0, e_ref11_Right_r1, e_ref11_Right_r2, e_ref11_Right_r3, e_ref11_Right_r4, e_ref11_Right_r5, e_ref11_Right_r6, e_ref11_Right_r7, e_ref11_Right_r8, e_ref11_Right_r9, e_ref11_Right_r10, e_ref11_Right_r11, e_ref11_Right_r13, e_ref11_Right_r14, e_ref11_Right_r15, e_ref11_Right_r17, D_In, h1, h2, cnOk]
  simp [-List.length_flatMap, -List.map_take, e_ref11_Right_r0, e_ref11_Right_r1, e_ref11_Right_r2, e_ref11_Right_r3, e_ref11_Right_r4, e_ref11_Right_r5, e_ref11_Right_r6, e_ref11_Right_r7, e_ref11_Right_r8, e_ref11_Right_r9, e_ref11_Right_r10, e_ref11_Right_r11, e_ref11_Right_r13, e_ref11_Right_r14, e_ref11_Right_r15, e_ref11_Right_r17, D_In, h1, h2]
  refine WL.to (L_Right (σ := [] :: σ) hc c.l.length 0 (by omega)) (by simp) rfl ?_
  rintro x e σ' ⟨rfl, hh⟩
  rw [List.drop_zero] at hh
  cases h3 : allB c.l (rowOk c.h)
  · rw [h3] at hh
    simp only [Bool.false_eq_true, if_false] at hh
    obtain ⟨rfl, g2⟩ := hh
    simp [g2, cnOk, h1, h2, h3]
  · rw [h3] at hh
    simp only [if_true] at hh
    subst hh
    simp [-List.length_flatMap, -List.map_take, e_ref11_Right_r17, cnOk, h1, h2, h3]
theorem L_Conc {c : Cn} (hc : Few c) (hσ : σ ≠ []) : ∀ (m j v : Nat), j + m = c.l.length →
    WL T [1, 2, 3, 4] true f_law11_Concession_l6 [(1, .cref [.int .i64 c.h, .lst c.l.length (c.l.flatMap rowE)]), (2, .own 0 [.int .i64 0, .nils]), (3, .own 0 [.int .i64 c.h, .sl σ.length 0 v 0 j 1]), (4, .int .i64 j)]
      ([.cells v ((c.l.take j).flatMap rowE)] :: σ)
      (fun x e σ' => x = .exit 0 ∧ get e 2 = .own 0 [.int .i64 0, .nils] ∧ get e 3 = .own 0 [.int .i64 c.h, .sl σ.length 0 (v + m) 0 c.l.length 1] ∧ σ' = [.cells (v + m) (c.l.flatMap rowE)] :: σ)
  | 0, j, v, hi => by
    refine WL_stepS e_law11_Concession_l6 ?_
    have h1 : ¬ j < c.l.length := by omega
    have h3 : c.l.take j = c.l := List.take_of_length_le (by omega)
    have h4 : j = c.l.length := by omega
    subst h4
    simp [-List.length_flatMap, -List.map_take, e_law11_Concession_r0, e_law11_Concession_r1, e_law11_Concession_r2, e_law11_Concession_r3, e_law11_Concession_r4, e_law11_Concession_r5, e_law11_Concession_r7]
    rw [frz_ownN (by simp) (by omega)]
    simp
  | m + 1, j, v, hi => by
    refine WL_stepS e_law11_Concession_l6 ?_
    have h1 : j < c.l.length := by omega
    obtain ⟨r, hr⟩ : ∃ x, c.l[j]? = some x := ⟨_, List.getElem?_eq_getElem h1⟩
    have hrl := hc.2 r (List.mem_of_getElem? hr)
    have hll := hc.1
    have a1 := row_at hr
    have h3 := flat_take (f := rowE) (w := 1) (fun _ => rfl) (Nat.le_of_lt h1)
    rw [Nat.mul_one] at h3
    have h4 := flat_snoc (f := rowE) hr
    have h5 := flat_len (f := rowE) (w := 1) (fun _ => rfl) (c.l.take j)
    have h5' := flat_len (f := intE) (w := 1) (fun _ => rfl) r
    rw [Nat.mul_one] at h5 h5'
    have h6 := wnext h1 (by omega)
    have h7 : (j + 1) * 24 ≤ room := by unfold room; omega
    have h9 : r.length * 8 ≤ room := by unfold room; omega
    have h8 : min j c.l.length = j := by omega
    have ih := L_Conc hc hσ m (j + 1) (v + 1) (by omega)
    have z1 := k_frz (f := intE) (w := 1) (fun _ => rfl) (fun x => by simp) (l := r) (j := 0) (v := 1) (bs := [.cells 1 (r.flatMap intE)]) (σ := [.cells v ((c.l.take j).flatMap rowE)] :: σ) (by simp) rfl
    simp only [List.length_cons] at z1
    simp [-List.length_flatMap, -List.map_take, e_law11_Concession_r0, e_law11_Concession_r1, e_law11_Concession_r2, e_law11_Concession_r3, e_law11_Concession_r4, e_law11_Concession_r5, e_law11_Concession_r7, h1, a1, h3, h5, h5', h6, h7, h8, h9, z1]
    rw [frz_ownN (by simp) (by omega)]
    refine WL.to ih (by simp) (by simp [← h4]) fun x e σ hh => by simpa [Nat.add_assoc, Nat.add_comm 1 m] using hh
theorem C_Conc {c : Cn} (hc : Few c) (hσ : σ ≠ []) : lim T (.call false i_law11_Concession [cnD c] σ) = some (.val (cnD c) σ) := by
  refine call_of T_law11_Concession e_law11_Concession rfl ?_
  simp [-List.length_flatMap, -List.map_take, e_law11_Concession_r0, e_law11_Concession_r1, e_law11_Concession_r2, e_law11_Concession_r3, e_law11_Concession_r4, e_law11_Concession_r5, e_law11_Concession_r7]
  refine WL.to (L_Conc (σ := σ) hc hσ c.l.length 0 0 (by omega)) (by simp) (by simp) ?_
  rintro x e σ' ⟨rfl, g2, g3, rfl⟩
  simp [-List.length_flatMap, -List.map_take, e_law11_Concession_r7, g2, g3]
  rw [frz_agg (by simp) (by omega)]
  simp only [frzL_cons, frzL_nil]
  rw [frz_clean (by simp) (by omega)]
  rw [out_at (f := rowE) (w := 1) (by decide) (fun _ => rfl) (fun x => by simp) hσ (by simp)]
  simp
theorem L_Both {a b : List Int} (hl : a.length ≤ 1000) (hab : a.length = b.length) (ha : ∀ x ∈ a, 0 ≤ x ∧ x ≤ 1000000000000000) (hb : ∀ x ∈ b, 0 ≤ x ∧ x ≤ 1000000000000000) : ∀ (m i v : Nat), i + m = a.length →
    WL T [0, 1, 5, 6] false f_ref11_Both_l6 [(0, .lst a.length (a.flatMap intE)), (1, .lst b.length (b.flatMap intE)), (5, .sl (σ).length 0 v 0 i 1), (6, .int .i64 i)] ([.cells v (((bothI a b).take i).flatMap intE)] :: σ)
      (fun x e σ' => x = .exit 0 ∧ get e 5 = .sl (σ).length 0 (v + m) 0 (bothI a b).length 1 ∧ σ' = [.cells (v + m) ((bothI a b).flatMap intE)] :: σ)
  | 0, i, v, hi => by
    refine WL_step e_ref11_Both_l6 ?_
    have h1 : ¬ i < a.length := by omega
    have h2 : (bothI a b).length = i := by rw [both_len hab]; omega
    have h3 : (bothI a b).take i = bothI a b := List.take_of_length_le (by omega)
    simp [-List.length_flatMap, -List.map_take, e_ref11_Both_r0, e_ref11_Both_r1, e_ref11_Both_r2, e_ref11_Both_r3, e_ref11_Both_r4, e_ref11_Both_r5, e_ref11_Both_r7, h1, h2, h3]
  | m + 1, i, v, hi => by
    refine WL_step e_ref11_Both_l6 ?_
    have h1 : i < a.length := by omega
    have h1' : i < b.length := by omega
    obtain ⟨x, hx⟩ : ∃ x, a[i]? = some x := ⟨_, List.getElem?_eq_getElem h1⟩
    obtain ⟨y, hy⟩ : ∃ x, b[i]? = some x := ⟨_, List.getElem?_eq_getElem h1'⟩
    have hxb := ha x (List.mem_of_getElem? hx)
    have hyb := hb y (List.mem_of_getElem? hy)
    have a1 := int_at hx
    have a5 : (a.flatMap intE).drop i = .int .i64 x :: (a.flatMap intE).drop (i + 1) := by
      have := k_drop (f := intE) (w := 1) (fun _ => rfl) hx
      simpa using this
    have a2 := int_at hy
    have a3 := flat_snoc (f := intE) (both_get hx hy)
    have hL := both_len hab
    have a4 := flat_len (f := intE) (w := 1) (fun _ => rfl) ((bothI a b).take i)
    rw [Nat.mul_one, List.length_take, hL] at a4
    have a4' : min i a.length = i := by omega
    rw [a4'] at a4
    have a6 : (((bothI a b).take i).flatMap intE).take i = ((bothI a b).take i).flatMap intE := List.take_of_length_le (by omega)
    have w1 := wnext h1 (by omega)
    have w2 := w64 (n := x + y) (by omega)
    have h7 : (i + 1) * 8 ≤ room := by unfold room; omega
    have ih := L_Both hl hab ha hb m (i + 1) (v + 1) (by omega)
    simp [-List.length_flatMap, -List.map_take, e_ref11_Both_r0, e_ref11_Both_r1, e_ref11_Both_r2, e_ref11_Both_r3, e_ref11_Both_r4, e_ref11_Both_r5, e_ref11_Both_r7, h1, h1', a1, a2, a4, a5, a6, w1, w2, h7]
    refine WL.to ih (by simp) (by simp [← a3]) fun x e σ hh => by simpa [Nat.add_assoc, Nat.add_comm 1 m] using hh
theorem C_Both {a b : List Int} (hl : a.length ≤ 1000) (hab : a.length = b.length) (ha : ∀ x ∈ a, 0 ≤ x ∧ x ≤ 1000000000000000) (hb : ∀ x ∈ b, 0 ≤ x ∧ x ≤ 1000000000000000) (hσ : σ ≠ []) : lim T (.call false i_ref11_Both [.lst a.length (a.flatMap intE), .lst b.length (b.flatMap intE)] (σ)) = some (.val (.lst (bothI a b).length ((bothI a b).flatMap intE)) (σ)) := by
  refine call_of T_ref11_Both e_ref11_Both rfl ?_
  simp [-List.length_flatMap, -List.map_take, e_ref11_Both_r0, e_ref11_Both_r1, e_ref11_Both_r2, e_ref11_Both_r3, e_ref11_Both_r4, e_ref11_Both_r5, e_ref11_Both_r7]
  refine WL.to (L_Both (σ := σ) hl hab ha hb a.length 0 0 (by omega)) (by simp) (by simp) ?_
  rintro x e σ' ⟨rfl, g5, rfl⟩
  simp [-List.length_flatMap, -List.map_take, e_ref11_Both_r7, g5]
  rw [out_at (n := 16) (f := intE) (w := 1) (by decide) (fun _ => rfl) (fun x => by simp) hσ (by simp)]
  simp
theorem out_atS {α : Type} {f : α → List D} {w n : Nat} (hn : 1 < n) (hw : ∀ x, (f x).length = w) (hc : ∀ x, D.cleanL (f x) = true) {l : List α} {j v : Nat} {bs S F : List Blk} (hj : bs[j]? = some (.cells v (l.flatMap f))) :
    frz (σ.length + 1) n (.sl (σ.length + 1 + 1) j v 0 l.length w) (bs :: S :: F :: σ) = (.lst l.length (l.flatMap f), bs.set j .dead :: S :: F :: σ) := by
  have := out_at (σ := S :: F :: σ) hn hw hc (by simp) hj
  simpa using this
theorem L_BothS {a b : List Int} {S : List Blk} {G : Blk} {u : Nat} (hl : a.length ≤ 1000) (hab : a.length = b.length) (ha : ∀ x ∈ a, 0 ≤ x ∧ x ≤ 1000000000000000) (hb : ∀ x ∈ b, 0 ≤ x ∧ x ≤ 1000000000000000) : ∀ (m i v : Nat), i + m = a.length →
    WL T [0, 1, 5, 6] false f_ref11_Both_l6 [(0, .sl σ.length 0 u 0 a.length 1), (1, .lst b.length (b.flatMap intE)), (5, .sl (S :: [.cells u (a.flatMap intE), G] :: σ).length 0 v 0 i 1), (6, .int .i64 i)] ([.cells v (((bothI a b).take i).flatMap intE)] :: S :: [.cells u (a.flatMap intE), G] :: σ)
      (fun x e σ' => x = .exit 0 ∧ get e 5 = .sl (S :: [.cells u (a.flatMap intE), G] :: σ).length 0 (v + m) 0 (bothI a b).length 1 ∧ σ' = [.cells (v + m) ((bothI a b).flatMap intE)] :: S :: [.cells u (a.flatMap intE), G] :: σ)
  | 0, i, v, hi => by
    refine WL_step e_ref11_Both_l6 ?_
    have h1 : ¬ i < a.length := by omega
    have h2 : (bothI a b).length = i := by rw [both_len hab]; omega
    have h3 : (bothI a b).take i = bothI a b := List.take_of_length_le (by omega)
    simp [-List.length_flatMap, -List.map_take, e_ref11_Both_r0, e_ref11_Both_r1, e_ref11_Both_r2, e_ref11_Both_r3, e_ref11_Both_r4, e_ref11_Both_r5, e_ref11_Both_r7, h1, h2, h3]
  | m + 1, i, v, hi => by
    refine WL_step e_ref11_Both_l6 ?_
    have h1 : i < a.length := by omega
    have h1' : i < b.length := by omega
    obtain ⟨x, hx⟩ : ∃ x, a[i]? = some x := ⟨_, List.getElem?_eq_getElem h1⟩
    obtain ⟨y, hy⟩ : ∃ x, b[i]? = some x := ⟨_, List.getElem?_eq_getElem h1'⟩
    have hxb := ha x (List.mem_of_getElem? hx)
    have hyb := hb y (List.mem_of_getElem? hy)
    have a1 := int_at hx
    have a5 : (a.flatMap intE).drop i = .int .i64 x :: (a.flatMap intE).drop (i + 1) := by
      have := k_drop (f := intE) (w := 1) (fun _ => rfl) hx
      simpa using this
    have a2 := int_at hy
    have a3 := flat_snoc (f := intE) (both_get hx hy)
    have hL := both_len hab
    have a4 := flat_len (f := intE) (w := 1) (fun _ => rfl) ((bothI a b).take i)
    rw [Nat.mul_one, List.length_take, hL] at a4
    have a4' : min i a.length = i := by omega
    rw [a4'] at a4
    have a6 : (((bothI a b).take i).flatMap intE).take i = ((bothI a b).take i).flatMap intE := List.take_of_length_le (by omega)
    have w1 := wnext h1 (by omega)
    have w2 := w64 (n := x + y) (by omega)
    have h7 : (i + 1) * 8 ≤ room := by unfold room; omega
    have ih := L_BothS (S := S) (G := G) (u := u) hl hab ha hb m (i + 1) (v + 1) (by omega)
    simp [-List.length_flatMap, -List.map_take, e_ref11_Both_r0, e_ref11_Both_r1, e_ref11_Both_r2, e_ref11_Both_r3, e_ref11_Both_r4, e_ref11_Both_r5, e_ref11_Both_r7, h1, h1', a1, a2, a4, a5, a6, w1, w2, h7]
    refine WL.to ih (by simp) (by simp [← a3]) fun x e σ hh => by simpa [Nat.add_assoc, Nat.add_comm 1 m] using hh
theorem C_BothS {a b : List Int} {S : List Blk} {G : Blk} {u : Nat} (hl : a.length ≤ 1000) (hab : a.length = b.length) (ha : ∀ x ∈ a, 0 ≤ x ∧ x ≤ 1000000000000000) (hb : ∀ x ∈ b, 0 ≤ x ∧ x ≤ 1000000000000000)  : lim T (.call false i_ref11_Both [.sl σ.length 0 u 0 a.length 1, .lst b.length (b.flatMap intE)] (S :: [.cells u (a.flatMap intE), G] :: σ)) = some (.val (.lst (bothI a b).length ((bothI a b).flatMap intE)) (S :: [.cells u (a.flatMap intE), G] :: σ)) := by
  refine call_of T_ref11_Both e_ref11_Both rfl ?_
  simp [-List.length_flatMap, -List.map_take, e_ref11_Both_r0, e_ref11_Both_r1, e_ref11_Both_r2, e_ref11_Both_r3, e_ref11_Both_r4, e_ref11_Both_r5, e_ref11_Both_r7]
  refine WL.to (L_BothS (σ := σ) (S := S) (G := G) (u := u) hl hab ha hb a.length 0 0 (by omega)) (by simp) (by simp) ?_
  rintro x e σ' ⟨rfl, g5, rfl⟩
  simp [-List.length_flatMap, -List.map_take, e_ref11_Both_r7, g5]
  rw [out_atS (n := 16) (f := intE) (w := 1) (by decide) (fun _ => rfl) (fun x => by simp)  (by simp)]
  simp
theorem C_listS {l : List Int} {S : List Blk} {G : Blk} {u : Nat} (hl : l.length ≤ 100000) : lim T (.call false i_law11_list [.sl σ.length 0 u 0 l.length 1] (S :: [.cells u (l.flatMap intE), G] :: σ)) = some (.val (.lst l.length (l.flatMap intE)) (S :: [.cells u (l.flatMap intE), G] :: σ)) := by
  refine call_of T_law11_list e_law11_list rfl ?_
  have h5 := flat_len (f := intE) (w := 1) (fun _ => rfl) l
  rw [Nat.mul_one] at h5
  have h6 : l.length * 8 ≤ room := by unfold room; omega
  have h8 : (l.flatMap intE).take l.length = l.flatMap intE := List.take_of_length_le (by omega)
  simp [-List.length_flatMap, -List.map_take, e_law11_list_r0, e_law11_list_r1, h5, h6, h8]
  rw [out_atS (n := 16) (f := intE) (w := 1) (by decide) (fun _ => rfl) (fun x => by simp) (by simp)]
  simp
end Go.Proofs.Ytcccafphhmcifaa
