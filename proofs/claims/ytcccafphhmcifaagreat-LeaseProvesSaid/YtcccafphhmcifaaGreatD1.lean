/-
  Concessions of layer 11: what is valid, what is due, of the program; copies of the law's.
-/
import Derived.Test.YtcccafphhmcifaaGreatTab
import Derived.Test.YtcccafphhmcifaaGreatDueSpec
set_option linter.unusedVariables false
set_option linter.unusedSimpArgs false
namespace Go.Proofs.YtcccafphhmcifaaGreat
open Go Go.Abs Go.Lease
variable {σ : Stack}

theorem D_within {a b c : Int} : lim T (.call false i_lease_within [.int .i64 a, .int .i64 b, .int .i64 c] σ) = some (.val (.bool (inn a b c)) σ) := by
  refine call_of T_lease_within e_lease_within rfl ?_
  by_cases h : b ≤ a <;> simp [-List.length_flatMap, -List.map_take, e_lease_within_r0, e_lease_within_r1, h, inn]
theorem D_In {a b c : Int} : lim T (.call false i_ref11_In [.int .i64 a, .int .i64 b, .int .i64 c] σ) = some (.val (.bool (inn a b c)) σ) := by
  refine call_of T_ref11_In e_ref11_In rfl ?_
  by_cases h : b ≤ a <;> simp [-List.length_flatMap, -List.map_take, e_ref11_In_r0, e_ref11_In_r1, h, inn]
theorem D_total {a : Int} : lim T (.call false i_lease_total [.int .i64 a] σ) = some (.val (.bool (inn a 0 1000000000000)) σ) := by
  refine call_of T_lease_total e_lease_total rfl ?_
  simp [-List.length_flatMap, -List.map_take, e_lease_total_r0, e_lease_total_r1, D_within]
theorem D_allint {l : List Int} {p : Int → Bool} {fv : D} (hl : l.length ≤ 9223372036854775807) (ht : Tests T fv (fun n => .int .i64 n) p l) (hc : fv.cells = some [fv]) :
    lim T (.call false i_lease_all_int [.lst l.length (l.flatMap intE), fv] σ) = some (.val (.bool (allB l p)) σ) :=
  all_of (eltInt .i64) T_lease_all_int T_lease_all_int_1 T_slices_ContainsFunc_int T_slices_IndexFunc_int hl ht hc
theorem allB_nil {α : Type} {p : α → Bool} : allB [] p = true := rfl
theorem allB_cons {α : Type} {p : α → Bool} {x : α} {l : List α} : allB (x :: l) p = (p x && allB l p) := rfl
theorem int_at {l : List Int} {i : Nat} {x : Int} (hx : l[i]? = some x) : ((l.flatMap intE).drop i).take 1 = [.int .i64 x] := by
  have := flat_at (f := intE) (w := 1) (fun _ => rfl) hx
  simpa using this
theorem row_at {l : List (List Int)} {i : Nat} {x : List Int} (hx : l[i]? = some x) : ((l.flatMap rowE).drop i).take 1 = [.lst x.length (x.flatMap intE)] := by
  have := flat_at (f := rowE) (w := 1) (fun _ => rfl) hx
  simpa using this

/-! ### Sums, copies -/

theorem L_sum {l : List Int} (hl : l.length ≤ 1000) (hb : ∀ x ∈ l, 0 ≤ x ∧ x ≤ 1000000000000) : ∀ (m i : Nat) (n : Int), i + m = l.length → 0 ≤ n → n ≤ 1000000000000 * i →
    WL T [2, 5, 6, 7] false f_lease_sum_l6 [(2, .int .i64 n), (5, .lst l.length (l.flatMap intE)), (6, .int .i64 l.length), (7, .int .i64 i)] σ
      (fun x e σ' => σ' = σ ∧ x = .exit 0 ∧ get e 2 = .int .i64 (n + sumI (l.drop i)))
  | 0, i, n, hi, h0, hn => by
    refine WL_step e_lease_sum_l6 ?_
    have h1 : ¬ i < l.length := by omega
    have h2 : l.drop i = [] := List.drop_eq_nil_of_le (by omega)
    rw [h2]
    simp [-List.length_flatMap, -List.map_take, e_lease_sum_r0, e_lease_sum_r1, e_lease_sum_r2, e_lease_sum_r3, e_lease_sum_r4, e_lease_sum_r5, e_lease_sum_r7, h1, sumI]
  | m + 1, i, n, hi, h0, hn => by
    refine WL_step e_lease_sum_l6 ?_
    have h1 : i < l.length := by omega
    obtain ⟨x, hx⟩ : ∃ x, l[i]? = some x := ⟨_, List.getElem?_eq_getElem h1⟩
    have hxb := hb x (List.mem_of_getElem? hx)
    have a1 := int_at hx
    have w1 := wnext h1 (by omega)
    have w2 := w64 (n := n + x) (by omega)
    have ih := L_sum hl hb m (i + 1) (n + x) (by omega) (by omega) (by omega)
    rw [dropS hx]
    simp [-List.length_flatMap, -List.map_take, e_lease_sum_r0, e_lease_sum_r1, e_lease_sum_r2, e_lease_sum_r3, e_lease_sum_r4, e_lease_sum_r5, e_lease_sum_r7, h1, a1, w1, w2]
    refine WL.to ih (by simp) rfl ?_
    intro x e σ' hh
    simpa [sumI, Int.add_assoc] using hh
theorem C_sum {l : List Int} (hl : l.length ≤ 1000) (hb : ∀ x ∈ l, 0 ≤ x ∧ x ≤ 1000000000000) : lim T (.call false i_lease_sum [.lst l.length (l.flatMap intE)] σ) = some (.val (.int .i64 (sumI l)) σ) := by
  refine call_of T_lease_sum e_lease_sum rfl ?_
  simp [-List.length_flatMap, -List.map_take, e_lease_sum_r0, e_lease_sum_r1, e_lease_sum_r2, e_lease_sum_r3, e_lease_sum_r4, e_lease_sum_r5, e_lease_sum_r7]
  refine WL.to (L_sum (σ := [] :: σ) hl hb l.length 0 0 (by omega) (by omega) (by omega)) (by simp) rfl ?_
  rintro x e σ' ⟨rfl, rfl, g2⟩
  simp [-List.length_flatMap, -List.map_take, e_lease_sum_r7, g2]
theorem C_list {l : List Int} (hl : l.length ≤ 100000) (hσ : σ ≠ []) : lim T (.call false i_law11_list [.lst l.length (l.flatMap intE)] σ) = some (.val (.lst l.length (l.flatMap intE)) σ) := by
  refine call_of T_law11_list e_law11_list rfl ?_
  have h5 := flat_len (f := intE) (w := 1) (fun _ => rfl) l
  rw [Nat.mul_one] at h5
  have h6 : l.length * 8 ≤ room := by unfold room; omega
  simp [-List.length_flatMap, -List.map_take, e_law11_list_r0, e_law11_list_r1, h5, h6]
  have h3 : ¬ σ.length ≤ σ.length - 1 := by have := List.length_pos_iff.2 hσ; omega
  have h7 : D.cleanL (l.flatMap intE) = true := k_clean (fun x => by simp) _
  rw [frz_sl h3 (cs := l.flatMap intE) (by simp) (by omega)]
  have h8 : (l.flatMap intE).take l.length = l.flatMap intE := List.take_of_length_le (by omega)
  simp [h8, h7]
theorem L_ints {a b : List Int} (hl : a.length ≤ 9223372036854775807) (hab : a.length = b.length) : ∀ (m i : Nat), i + m = a.length →
    WL T [0, 1, 5] false f_law11_ints_l8 [(0, .lst a.length (a.flatMap intE)), (1, .lst b.length (b.flatMap intE)), (5, .int .i64 i)] σ (fun x e σ' => σ' = σ ∧ if a.drop i = b.drop i then x = .exit 0 else x = .ret ∧ get e 4 = .bool false)
  | 0, i, hi => by
    refine WL_step e_law11_ints_l8 ?_
    have h1 : ¬ i < a.length := by omega
    have h2 : a.drop i = [] := List.drop_eq_nil_of_le (by omega)
    have h3 : b.drop i = [] := List.drop_eq_nil_of_le (by omega)
    rw [h2, h3]
    simp [-List.length_flatMap, -List.map_take, e_law11_ints_r0, e_law11_ints_r1, e_law11_ints_r2, e_law11_ints_r3, e_law11_ints_r4, e_law11_ints_r5, e_law11_ints_r6, e_law11_ints_r7, e_law11_ints_r9, h1]
  | m + 1, i, hi => by
    refine WL_step e_law11_ints_l8 ?_
    have ih := L_ints hl hab m (i + 1) (by omega)
    have h1 : i < a.length := by omega
    have h1' : i < b.length := by omega
    obtain ⟨x, hx⟩ : ∃ x, a[i]? = some x := ⟨_, List.getElem?_eq_getElem h1⟩
    obtain ⟨y, hy⟩ : ∃ x, b[i]? = some x := ⟨_, List.getElem?_eq_getElem h1'⟩
    have a1 := int_at hx
    have a2 := int_at hy
    have h4 := wnext h1 hl
    rw [dropS hx, dropS hy]
    by_cases hxy : x = y
    · subst hxy
      simp [-List.length_flatMap, -List.map_take, e_law11_ints_r0, e_law11_ints_r1, e_law11_ints_r2, e_law11_ints_r3, e_law11_ints_r4, e_law11_ints_r5, e_law11_ints_r6, e_law11_ints_r7, e_law11_ints_r9, h1, h1', a1, a2, h4]
      exact WL.to ih (by simp) rfl fun x e σ hh => by simpa using hh
    · simp [-List.length_flatMap, -List.map_take, e_law11_ints_r0, e_law11_ints_r1, e_law11_ints_r2, e_law11_ints_r3, e_law11_ints_r4, e_law11_ints_r5, e_law11_ints_r6, e_law11_ints_r7, e_law11_ints_r9, h1, h1', a1, a2, h4, hxy]
theorem C_ints {a b : List Int} (hl : a.length ≤ 9223372036854775807) :
    lim T (.call false i_law11_ints [.lst a.length (a.flatMap intE), .lst b.length (b.flatMap intE)] σ) = some (.val (.bool (decide (a = b))) σ) := by
  refine call_of T_law11_ints e_law11_ints rfl ?_
  by_cases hab : a.length = b.length
  · simp [-List.length_flatMap, -List.map_take, e_law11_ints_r0, e_law11_ints_r1, e_law11_ints_r2, e_law11_ints_r3, e_law11_ints_r4, e_law11_ints_r5, e_law11_ints_r6, e_law11_ints_r7, e_law11_ints_r9, hab]
    refine WL.to (L_ints (σ := [] :: σ) hl hab a.length 0 (by omega)) (by simp [hab]) rfl ?_
    rintro x e σ' ⟨rfl, hh⟩
    rw [List.drop_zero, List.drop_zero] at hh
    by_cases h : a = b
    · rw [if_pos h] at hh
      subst hh
      simp [-List.length_flatMap, -List.map_take, e_law11_ints_r9, h]
    · rw [if_neg h] at hh
      obtain ⟨rfl, g4⟩ := hh
      simp [g4, h]
  · have h2 : ¬ a = b := fun h => hab (by rw [h])
    have h3 : ¬ (a.length : Int) = b.length := by omega
    simp [-List.length_flatMap, -List.map_take, e_law11_ints_r0, e_law11_ints_r1, e_law11_ints_r2, e_law11_ints_r3, e_law11_ints_r4, e_law11_ints_r5, e_law11_ints_r6, e_law11_ints_r7, e_law11_ints_r9, h2, h3]

/-! ### What is valid -/

@[simp] def cnD (c : Cn) : D := .agg [.int .i64 c.h, .lst c.l.length (c.l.flatMap rowE)]
def Few (c : Cn) : Prop := c.l.length ≤ 25 ∧ ∀ r ∈ c.l, r.length ≤ 12
def eltRow : Elt (List Int) := ⟨false, 1, rowE, fun r => .lst r.length (r.flatMap intE), fun _ => rfl, fun _ => by simp, fun _ => rfl, fun _ => rfl, fun _ => rfl⟩
theorem C_cv11 {n : Int} : lim T (.call false i_lease_Concession_valid_1_1 [.int .i64 n] σ) = some (.val (.bool (inn n 0 1000)) σ) := by
  refine call_of T_lease_Concession_valid_1_1 e_lease_Concession_valid_1_1 rfl ?_
  simp [-List.length_flatMap, -List.map_take, e_lease_Concession_valid_1_1_r0, e_lease_Concession_valid_1_1_r1, D_within]
theorem C_cv1 {c : Cn} {r : List Int} (hr : r.length ≤ 12) : lim T (.call false i_lease_Concession_valid_1 [.lst r.length (r.flatMap intE), .cref [.int .i64 c.h, .lst c.l.length (c.l.flatMap rowE)]] σ) = some (.val (.bool (rowOk c.h r)) σ) := by
  refine call_of T_lease_Concession_valid_1 e_lease_Concession_valid_1 rfl ?_
  have hA := fun σ => D_allint (σ := σ) (l := r) (p := fun n => inn n 0 1000) (fv := .fn i_lease_Concession_valid_1_1 [] []) (by omega) (.fn fun n _ σ => C_cv11) rfl
  by_cases h1 : (r.length : Int) = c.h
  · cases h2 : allB r (fun n => inn n 0 1000)
    · simp [-List.length_flatMap, -List.map_take, e_lease_Concession_valid_1_r0, e_lease_Concession_valid_1_r1, h1, hA, h2, rowOk]
    · have hS := fun σ => C_sum (σ := σ) (l := r) (by omega) fun x hx => by have := inn_iff.1 (allB_iff.1 h2 x hx); omega
      by_cases h3 : sumI r ≤ 1000
      · simp [-List.length_flatMap, -List.map_take, e_lease_Concession_valid_1_r0, e_lease_Concession_valid_1_r1, h1, hA, h2, hS, h3, rowOk]
      · simp [-List.length_flatMap, -List.map_take, e_lease_Concession_valid_1_r0, e_lease_Concession_valid_1_r1, h1, hA, h2, hS, h3, rowOk]
  · simp [-List.length_flatMap, -List.map_take, e_lease_Concession_valid_1_r0, e_lease_Concession_valid_1_r1, h1, rowOk]
theorem C_cvalid {c : Cn} (hc : Few c) : lim T (.call false i_lease_Concession_valid [cnD c] σ) = some (.val (.bool (cnOk c)) σ) := by
  refine call_of T_lease_Concession_valid e_lease_Concession_valid rfl ?_
  have hA := fun σ => all_of (σ := σ) eltRow T_lease_all_L_int T_lease_all_L_int_1 T_slices_ContainsFunc_L_int T_slices_IndexFunc_L_int (l := c.l) (p := rowOk c.h) (fv := .fn i_lease_Concession_valid_1 [] [.cref [.int .i64 c.h, .lst c.l.length (c.l.flatMap rowE)]]) (by have := hc.1; omega) (.fn fun r hr σ => C_cv1 (hc.2 r hr)) rfl
  have hE : eltRow.enc = rowE := rfl
  rw [hE] at hA
  cases h1 : inn c.h 1 8
  · simp [-List.length_flatMap, -List.map_take, e_lease_Concession_valid_r0, e_lease_Concession_valid_r1, D_within, h1, cnOk]
  cases h2 : inn c.l.length 1 20
  · simp [-List.length_flatMap, -List.map_take, e_lease_Concession_valid_r0, e_lease_Concession_valid_r1, D_within, h1, h2, cnOk]
  cases h3 : allB c.l (rowOk c.h)
  · simp [-List.length_flatMap, -List.map_take, e_lease_Concession_valid_r0, e_lease_Concession_valid_r1, D_within, h1, h2, h3, hA, cnOk]
  · simp [-List.length_flatMap, -List.map_take, e_lease_Concession_valid_r0, e_lease_Concession_valid_r1, D_within, h1, h2, h3, hA, cnOk]
theorem C_masses {c : Cn} (hc : Few c) {ms : List Int} (hm : ms.length ≤ 1000) : lim T (.call false i_lease_Concession_masses [cnD c, .lst ms.length (ms.flatMap intE)] σ) = some (.val (.bool (massOk c ms)) σ) := by
  refine call_of T_lease_Concession_masses e_lease_Concession_masses rfl ?_
  have hA := fun σ => D_allint (σ := σ) (l := ms) (p := fun n => inn n 0 1000000000000) (fv := .fn i_lease_total [] []) (by omega) (.fn fun n _ σ => D_total) rfl
  by_cases h1 : ms.length = c.l.length
  · cases h2 : allB ms (fun n => inn n 0 1000000000000)
    · simp [-List.length_flatMap, -List.map_take, e_lease_Concession_masses_r0, e_lease_Concession_masses_r1, ← h1, hA, h2, massOk]
    · simp [-List.length_flatMap, -List.map_take, e_lease_Concession_masses_r0, e_lease_Concession_masses_r1, ← h1, hA, h2, massOk]
  · have h2 : ¬ (ms.length : Int) = c.l.length := by omega
    simp [-List.length_flatMap, -List.map_take, e_lease_Concession_masses_r0, e_lease_Concession_masses_r1, h1, h2, massOk]

/-! ### What is due -/

theorem tdiv1000 {a : Int} (h : 0 ≤ a) : a.tdiv 1000 = a / 1000 := Int.tdiv_eq_ediv_of_nonneg h
theorem tmod1000 {a : Int} (h : 0 ≤ a) : a.tmod 1000 = a % 1000 := Int.tmod_eq_emod_of_nonneg h
theorem getD_of {l : List Int} {i : Nat} {x : Int} (h : l[i]? = some x) : l.getD i 0 = x := by rw [List.getD_eq_getElem?_getD, h]; rfl
theorem L_due2 {c : Cn} {ms : List Int} (hc : cnOk c = true) (hm : massOk c ms = true) {h : Nat} (hh : h < c.h.toNat) {d4 d5 d14 d15 : D} (s4 : d4.calm = d4) (s5 : d5.calm = d5) (s14 : d14.calm = d14) (s15 : d15.calm = d15) : ∀ (m i : Nat) (n q : Int), i + m = ms.length → 0 ≤ n → n ≤ 1000000000000 * i → 0 ≤ q → q ≤ 1000000 * i →
    WL T [1, 2, 4, 5, 6, 7, 8, 14, 15, 18, 19, 20] false f_lease_Concession_due_l12 [(1, .lst ms.length (ms.flatMap intE)), (2, .cref [.int .i64 c.h, .lst c.l.length (c.l.flatMap rowE)]), (4, d4), (5, d5), (6, .int .i64 h), (7, .int .i64 n), (8, .int .i64 q), (14, d14), (15, d15), (18, .lst ms.length (ms.flatMap intE)), (19, .int .i64 ms.length), (20, .int .i64 i)] σ
      (fun x e σ' => σ' = σ ∧ x = .exit 2 ∧ get e 1 = .lst ms.length (ms.flatMap intE) ∧ get e 2 = .cref [.int .i64 c.h, .lst c.l.length (c.l.flatMap rowE)] ∧ get e 4 = d4 ∧ get e 5 = d5 ∧ get e 6 = .int .i64 h ∧ get e 14 = d14 ∧ get e 15 = d15 ∧
        get e 7 = .int .i64 (n + dotQ (ms.drop i) (c.l.drop i) h) ∧ get e 8 = .int .i64 (q + dotR (ms.drop i) (c.l.drop i) h))
  | 0, i, n, q, hi, _, _, _, _ => by
    refine WL_step e_lease_Concession_due_l12 ?_
    have h1 : ¬ i < ms.length := by omega
    have h2 : ms.drop i = [] := List.drop_eq_nil_of_le (by omega)
    rw [h2]
    simp [-List.length_flatMap, -List.map_take, e_lease_Concession_due_r0, e_lease_Concession_due_r1, e_lease_Concession_due_r2, e_lease_Concession_due_r3, e_lease_Concession_due_r4, e_lease_Concession_due_r5, e_lease_Concession_due_r6, e_lease_Concession_due_r7, e_lease_Concession_due_r8, e_lease_Concession_due_r9, e_lease_Concession_due_r10, e_lease_Concession_due_r11, e_lease_Concession_due_r13, e_lease_Concession_due_r14, e_lease_Concession_due_r15, e_lease_Concession_due_r17, h1, dotQ, dotR, s4, s5, s14, s15]
  | m + 1, i, n, q, hi, n0, n1, q0, q1 => by
    refine WL_step e_lease_Concession_due_l12 ?_
    have hc1 := cnOk_iff.1 hc
    have hm1 := massOk_iff.1 hm
    have h1 : i < ms.length := by omega
    have h1' : i < c.l.length := by omega
    obtain ⟨x, hx⟩ : ∃ x, ms[i]? = some x := ⟨_, List.getElem?_eq_getElem h1⟩
    obtain ⟨r, hr⟩ : ∃ x, c.l[i]? = some x := ⟨_, List.getElem?_eq_getElem h1'⟩
    have hrk := hc1.2.2 r (List.mem_of_getElem? hr)
    have hrl := (rowOk_iff.1 hrk).1
    have h2 : h < r.length := by omega
    obtain ⟨s, hs⟩ : ∃ x, r[h]? = some x := ⟨_, List.getElem?_eq_getElem h2⟩
    have hsb := share_bd hrk h
    rw [getD_of hs] at hsb
    have hxb := hm1.2 x (List.mem_of_getElem? hx)
    have a1 := int_at hx
    have a2 := row_at hr
    have a3 := int_at hs
    have w1 := wnext h1 (by omega)
    have e1 := tdiv1000 hxb.1
    have e2 := tmod1000 hxb.1
    have b1 := mulS (m := x / 1000) (M := 1000000000) (by omega) hsb
    have b2 := mulS (m := x % 1000) (M := 1000) (by omega) hsb
    have w2 := w64 (n := x / 1000) (by omega)
    have w3 := w64 (n := x / 1000 * s) (by omega)
    have w4 := w64 (n := n + x / 1000 * s) (by omega)
    have w5 := w64 (n := x % 1000 * s) (by omega)
    have w6 := w64 (n := q + x % 1000 * s) (by omega)
    have ih := L_due2 hc hm hh s4 s5 s14 s15 m (i + 1) (n + x / 1000 * s) (q + x % 1000 * s) (by omega) (by omega) (by omega) (by omega) (by omega)
    rw [dropS hx, dropS hr]
    simp [-List.length_flatMap, -List.map_take, e_lease_Concession_due_r0, e_lease_Concession_due_r1, e_lease_Concession_due_r2, e_lease_Concession_due_r3, e_lease_Concession_due_r4, e_lease_Concession_due_r5, e_lease_Concession_due_r6, e_lease_Concession_due_r7, e_lease_Concession_due_r8, e_lease_Concession_due_r9, e_lease_Concession_due_r10, e_lease_Concession_due_r11, e_lease_Concession_due_r13, e_lease_Concession_due_r14, e_lease_Concession_due_r15, e_lease_Concession_due_r17, h1, h1', h2, a1, a2, a3, w1, w2, w3, w4, w5, w6, e1, e2, s4, s5, s14, s15]
    refine WL.to ih (by simp) rfl ?_
    intro x e σ' hh
    simpa [dotQ, dotR, hs, Int.add_assoc] using hh
/-- What is due to the first holders. -/
def dueTo (c : Cn) (ms : List Int) (j : Nat) : List Int := (List.range j).map fun h => dot ms c.l h / 1000
theorem dueTo_len {c : Cn} {ms : List Int} {j : Nat} : (dueTo c ms j).length = j := by simp [dueTo]
theorem dueTo_succ {c : Cn} {ms : List Int} {j : Nat} : dueTo c ms (j + 1) = dueTo c ms j ++ [dot ms c.l j / 1000] := by simp [dueTo, List.range_succ]
theorem dueTo_bd {c : Cn} {ms : List Int} (hc : cnOk c = true) (hm : massOk c ms = true) {j : Nat} : 0 ≤ sumI (dueTo c ms j) ∧ sumI (dueTo c ms j) ≤ 20000020000000 * j := by
  have h1 := cnOk_iff.1 hc
  have h2 := massOk_iff.1 hm
  have := sumI_bd (lo := 0) (hi := 20000020000000) (l := dueTo c ms j) fun x hx => by
    simp only [dueTo, List.mem_map] at hx
    obtain ⟨h, _, rfl⟩ := hx
    have := dot_bd (h := h) h1.2.2 h2.2
    omega
  rw [dueTo_len] at this
  omega
theorem set_last {α : Type} {bs : List α} {x y : α} : (bs ++ [x]).set bs.length y = bs ++ [y] := by simp [List.set_append]
theorem get_last {α : Type} {bs : List α} {x : α} : (bs ++ [x])[bs.length]? = some x := by simp
theorem L_due (bs : List Blk) {c : Cn} {ms : List Int} (hc : cnOk c = true) (hm : massOk c ms = true) : ∀ (m j v : Nat), j + m = c.h.toNat →
    WL T [1, 2, 4, 5, 14, 15] false f_lease_Concession_due_l16 [(1, .lst ms.length (ms.flatMap intE)), (2, .cref [.int .i64 c.h, .lst c.l.length (c.l.flatMap rowE)]), (4, .sl σ.length bs.length v 0 j 1), (5, .int .i64 (sumI ms - sumI (dueTo c ms j))), (14, .int .i64 c.h), (15, .int .i64 j)] ((bs ++ [.cells v ((dueTo c ms j).flatMap intE)]) :: σ)
      (fun x e σ' => x = .exit 0 ∧ get e 4 = .sl σ.length bs.length (v + m) 0 (dueL c ms).length 1 ∧ get e 5 = .int .i64 (dueR c ms) ∧ σ' = (bs ++ [.cells (v + m) ((dueL c ms).flatMap intE)]) :: σ)
  | 0, j, v, hj => by
    refine WL_step e_lease_Concession_due_l16 ?_
    have hc1 := cnOk_iff.1 hc
    have h1 : ¬ (j : Int) < c.h := by omega
    have h2 : j = c.h.toNat := by omega
    simp [-List.length_flatMap, -List.map_take, e_lease_Concession_due_r0, e_lease_Concession_due_r1, e_lease_Concession_due_r2, e_lease_Concession_due_r3, e_lease_Concession_due_r4, e_lease_Concession_due_r5, e_lease_Concession_due_r6, e_lease_Concession_due_r7, e_lease_Concession_due_r8, e_lease_Concession_due_r9, e_lease_Concession_due_r10, e_lease_Concession_due_r11, e_lease_Concession_due_r13, e_lease_Concession_due_r14, e_lease_Concession_due_r15, e_lease_Concession_due_r17, h1, dueL_len, dueR]
    subst h2
    exact ⟨rfl, rfl, rfl⟩
  | m + 1, j, v, hj => by
    refine WL_step e_lease_Concession_due_l16 ?_
    have hc1 := cnOk_iff.1 hc
    have hm1 := massOk_iff.1 hm
    have h1 : (j : Int) < c.h := by omega
    have hQ := dotQ_bd (h := j) hc1.2.2 hm1.2
    have hR := dotR_bd (h := j) hc1.2.2 hm1.2
    have ih := L_due bs hc hm m (j + 1) (v + 1) (by omega)
    have e1 := tdiv1000 hR.1
    have hl : (ms.length : Int) ≤ 20 := by omega
    have w2 := w64 (n := dotR ms c.l j / 1000) (by omega)
    have w3 := w64 (n := dotQ ms c.l j + dotR ms c.l j / 1000) (by omega)
    have hd := dot_div ms c.l j
    rw [← hd] at w3
    have hb := dueTo_bd hc hm (j := j)
    have hb2 := dueTo_bd hc hm (j := j + 1)
    rw [dueTo_succ, sumI_app] at hb2
    simp only [sumI] at hb2
    have hS := sumI_bd (lo := 0) (hi := 1000000000000) hm1.2
    have w4 := w64 (n := sumI ms - sumI (dueTo c ms j) - dot ms c.l j / 1000) (by omega)
    have w5 : IntKind.i64.wrap ((j : Int) + 1) = ((j + 1 : Nat) : Int) := by rw [w64 (by omega)]; rfl
    have w6 := w64 (n := sumI ms - sumI (dueTo c ms j)) (by omega)
    have hx : (dueTo c ms (j + 1))[j]? = some (dot ms c.l j / 1000) := by rw [dueTo_succ, List.getElem?_append_right (by rw [dueTo_len]; exact Nat.le_refl _), dueTo_len]; simp
    have a1 := int_at hx
    have f1 : (dueTo c ms (j + 1)).flatMap intE = (dueTo c ms j).flatMap intE ++ [.int .i64 (dot ms c.l j / 1000)] := by rw [dueTo_succ, List.flatMap_append]; simp
    have f2 := flat_len (f := intE) (w := 1) (fun _ => rfl) (dueTo c ms j)
    rw [dueTo_len, Nat.mul_one] at f2
    have f3 : ((dueTo c ms j).flatMap intE).take j = (dueTo c ms j).flatMap intE := List.take_of_length_le (by omega)
    have h7 : (j + 1) * 8 ≤ room := by unfold room; omega
    have h8 : (j : Int) < j + 1 := by omega
    simp [-List.length_flatMap, -List.map_take, e_lease_Concession_due_r0, e_lease_Concession_due_r1, e_lease_Concession_due_r2, e_lease_Concession_due_r3, e_lease_Concession_due_r4, e_lease_Concession_due_r5, e_lease_Concession_due_r6, e_lease_Concession_due_r7, e_lease_Concession_due_r8, e_lease_Concession_due_r9, e_lease_Concession_due_r10, e_lease_Concession_due_r11, e_lease_Concession_due_r13, e_lease_Concession_due_r14, e_lease_Concession_due_r15, e_lease_Concession_due_r17, h1]
    refine WL.to (L_due2 (c := c) (ms := ms) (h := j) hc hm (by omega) (d4 := .sl σ.length bs.length v 0 j 1) (d5 := .int .i64 (sumI ms - sumI (dueTo c ms j))) (d14 := .int .i64 c.h) (d15 := .int .i64 j) rfl rfl rfl rfl ms.length 0 0 0 (by omega) (by omega) (by omega) (by omega) (by omega)) (by simp) rfl ?_
    rintro x e σ' ⟨rfl, rfl, g1, g2, g4, g5, g6, g14, g15, g7, g8⟩
    rw [List.drop_zero, List.drop_zero, Int.zero_add] at g7 g8
    rw [f1] at a1
    simp [-List.length_flatMap, -List.map_take, e_lease_Concession_due_r13, e_lease_Concession_due_r14, e_lease_Concession_due_r15, g1, g2, g4, g5, g6, g7, g8, g14, g15, e1, w2, w3, ← hd, f2, f3, h7, h8, a1, w4, w5, h1, set_last, get_last]
    refine WL.to ih ?_ ?_ ?_
    · simp [dueTo_succ, sumI_app, sumI]; omega
    · simp [f1]
    · intro x e σ hh; simpa [Nat.add_assoc, Nat.add_comm 1 m] using hh
/-- A slice of the newest segment, written out, at any depth. -/
theorem out_at {α : Type} {f : α → List D} {w n : Nat} (hn : 1 < n) (hw : ∀ x, (f x).length = w) (hc : ∀ x, D.cleanL (f x) = true) {l : List α} {j v : Nat} {bs : List Blk} (hσ : σ ≠ []) (hj : bs[j]? = some (.cells v (l.flatMap f))) :
    frz (σ.length - 1) n (.sl σ.length j v 0 l.length w) (bs :: σ) = (.lst l.length (l.flatMap f), bs.set j .dead :: σ) := by
  have h3 : ¬ σ.length ≤ σ.length - 1 := by have := List.length_pos_iff.2 hσ; omega
  rw [frz_sl h3 (cs := l.flatMap f) (by simp [hj]) (by omega)]
  have h4 : 0 < n - 1 := by omega
  simp [k_self hw l, k_clean hc l, h4]
theorem C_due {c : Cn} {ms : List Int} (hc : cnOk c = true) (hm : massOk c ms = true) (hσ : σ ≠ []) : lim T (.call false i_lease_Concession_due [cnD c, .lst ms.length (ms.flatMap intE)] σ) = some (.val (.tup [.lst (dueL c ms).length ((dueL c ms).flatMap intE), .int .i64 (dueR c ms)]) σ) := by
  refine call_of T_lease_Concession_due e_lease_Concession_due rfl ?_
  have hc1 := cnOk_iff.1 hc
  have hm1 := massOk_iff.1 hm
  have hS := fun σ => C_sum (σ := σ) (l := ms) (by omega) hm1.2
  simp [-List.length_flatMap, -List.map_take, e_lease_Concession_due_r0, e_lease_Concession_due_r1, e_lease_Concession_due_r2, e_lease_Concession_due_r3, e_lease_Concession_due_r4, e_lease_Concession_due_r5, e_lease_Concession_due_r6, e_lease_Concession_due_r7, e_lease_Concession_due_r8, e_lease_Concession_due_r9, e_lease_Concession_due_r10, e_lease_Concession_due_r11, e_lease_Concession_due_r13, e_lease_Concession_due_r14, e_lease_Concession_due_r15, e_lease_Concession_due_r17, hS]
  refine WL.to (L_due (σ := σ) [] hc hm c.h.toNat 0 0 (by omega)) (by simp [dueTo, sumI]) (by simp [dueTo]) ?_
  rintro x e σ' ⟨rfl, g4, g5, rfl⟩
  simp [-List.length_flatMap, -List.map_take, e_lease_Concession_due_r17, g4, g5]
  rw [frz_tup (by simp) (by omega)]
  simp only [frzL_cons, frzL_nil]
  rw [out_at (f := intE) (w := 1) (by decide) (fun _ => rfl) (fun x => by simp) hσ (by simp)]
  simp
/-- .. kept in its caller's segment. -/
theorem C_dueK {c : Cn} {ms : List Int} (hc : cnOk c = true) (hm : massOk c ms = true) {bs : List Blk} : lim T (.call true i_lease_Concession_due [cnD c, .lst ms.length (ms.flatMap intE)] (bs :: σ)) = some (.val (.tup [.sl σ.length bs.length (0 + c.h.toNat) 0 (dueL c ms).length 1, .int .i64 (dueR c ms)]) ((bs ++ [.cells (0 + c.h.toNat) ((dueL c ms).flatMap intE)]) :: σ)) := by
  have hc1 := cnOk_iff.1 hc
  have hm1 := massOk_iff.1 hm
  have hS := fun σ => C_sum (σ := σ) (l := ms) (by omega) hm1.2
  refine call_kp T_lease_Concession_due e_lease_Concession_due rfl ?_
  simp [-List.length_flatMap, -List.map_take, e_lease_Concession_due_r0, e_lease_Concession_due_r1, e_lease_Concession_due_r2, e_lease_Concession_due_r3, e_lease_Concession_due_r4, e_lease_Concession_due_r5, e_lease_Concession_due_r6, e_lease_Concession_due_r7, e_lease_Concession_due_r8, e_lease_Concession_due_r9, e_lease_Concession_due_r10, e_lease_Concession_due_r11, e_lease_Concession_due_r13, e_lease_Concession_due_r14, e_lease_Concession_due_r15, e_lease_Concession_due_r17, hS]
  refine WL.to (L_due (σ := σ) bs hc hm c.h.toNat 0 0 (by omega)) (by simp [dueTo, sumI]) (by simp [dueTo]) ?_
  rintro x e σ' ⟨rfl, g4, g5, rfl⟩
  simp [-List.length_flatMap, -List.map_take, e_lease_Concession_due_r17, g4, g5]

/-! ### Due, Divide -/

def due3 (c : Cn) (ms : List Int) : D := if cnOk c then (if massOk c ms then .tup [.lst (dueL c ms).length ((dueL c ms).flatMap intE), .int .i64 (dueR c ms), .int .i64 0] else .tup [.nils, .int .i64 0, .int .i64 2]) else .tup [.nils, .int .i64 0, .int .i64 1]
theorem C_Due {c : Cn} (hc : Few c) {ms : List Int} (hm : ms.length ≤ 1000) (hσ : σ ≠ []) : lim T (.call false i_lease_Due [cnD c, .lst ms.length (ms.flatMap intE)] σ) = some (.val (due3 c ms) σ) := by
  refine call_of T_lease_Due e_lease_Due rfl ?_
  have hV := fun σ => C_cvalid (σ := σ) hc
  have hM := fun σ => C_masses (σ := σ) hc hm
  simp only [cnD] at hV hM
  unfold due3
  cases h1 : cnOk c
  · simp [-List.length_flatMap, -List.map_take, e_lease_Due_r0, e_lease_Due_r1, e_lease_Due_r2, e_lease_Due_r3, e_lease_Due_r4, e_lease_Due_r5, e_lease_Due_r6, hV, h1]
  cases h2 : massOk c ms
  · simp [-List.length_flatMap, -List.map_take, e_lease_Due_r0, e_lease_Due_r1, e_lease_Due_r2, e_lease_Due_r3, e_lease_Due_r4, e_lease_Due_r5, e_lease_Due_r6, hV, h1, hM, h2]
  · have hD := fun σ (hσ : σ ≠ []) => C_due (σ := σ) h1 h2 hσ
    simp only [cnD] at hD
    simp [-List.length_flatMap, -List.map_take, e_lease_Due_r0, e_lease_Due_r1, e_lease_Due_r2, e_lease_Due_r3, e_lease_Due_r4, e_lease_Due_r5, e_lease_Due_r6, hV, h1, hM, h2, hD, k_clean]
def subI (a b : List Int) : List Int := a.zipWith (· - ·) b
def div3 (c : Cn) (bf nw : List Int) : D := if cnOk c then (if massOk c bf && massOk c nw && massOk c (bothI bf nw) then .tup [.lst (dueL c nw).length ((subI (dueL c (bothI bf nw)) (dueL c bf)).flatMap intE), .int .i64 (dueR c (bothI bf nw) - dueR c bf), .int .i64 0] else .tup [.nils, .int .i64 0, .int .i64 2]) else .tup [.nils, .int .i64 0, .int .i64 1]
/-- The first of one list, then those of another. -/
def mixI (a b : List Int) (i : Nat) : List Int := a.take i ++ b.drop i
theorem mix_zero {a b : List Int} : mixI a b 0 = b := by simp [mixI]
theorem mix_all {a b : List Int} (h : b.length ≤ a.length) : mixI a b a.length = a := by simp [mixI, h]
theorem mix_len {a b : List Int} (h : a.length = b.length) {i : Nat} (hi : i ≤ a.length) : (mixI a b i).length = b.length := by simp [mixI]; omega
theorem mix_get {a b : List Int} (h : a.length = b.length) {i : Nat} (hi : i < a.length) : (mixI a b i)[i]? = b[i]? := by
  unfold mixI
  rw [List.getElem?_append_right (by simp; omega)]
  simp
  congr 1
  omega
theorem mix_set {a b : List Int} (h : a.length = b.length) {i : Nat} {x : Int} (hx : a[i]? = some x) : (mixI a b i).set i x = mixI a b (i + 1) := by
  have hi : i < a.length := (List.getElem?_eq_some_iff.1 hx).1
  unfold mixI
  rw [List.set_append_right _ _ (by simp; omega), List.take_add_one, hx]
  have h1 : i - (a.take i).length = 0 := by simp; omega
  rw [h1, List.drop_eq_getElem_cons (show i < b.length by omega), List.set_cons_zero, List.append_assoc]
  rfl
theorem mix_write {a b : List Int} (h : a.length = b.length) {i : Nat} {x : Int} (hx : a[i]? = some x) : ((mixI a b i).flatMap intE).take i ++ .int .i64 x :: ((mixI a b i).flatMap intE).drop (i + 1) = (mixI a b (i + 1)).flatMap intE := by
  have hi : i < a.length := (List.getElem?_eq_some_iff.1 hx).1
  have := k_set (f := intE) (w := 1) (l := mixI a b i) (i := i) (x := x) (fun _ => rfl) (by rw [mix_len h (by omega)]; omega)
  rw [mix_set h hx] at this
  simpa using this
theorem both_len {a b : List Int} (h : a.length = b.length) : (bothI a b).length = a.length := by simp [bothI, h]
theorem sub_len {a b : List Int} (h : a.length = b.length) : (subI a b).length = a.length := by simp [subI, h]
theorem both_get {a b : List Int} {i : Nat} {x y : Int} (hx : a[i]? = some x) (hy : b[i]? = some y) : (bothI a b)[i]? = some (x + y) := by simp [bothI, List.getElem?_zipWith, hx, hy]
theorem sub_get {a b : List Int} {i : Nat} {x y : Int} (hx : a[i]? = some x) (hy : b[i]? = some y) : (subI a b)[i]? = some (x - y) := by simp [subI, List.getElem?_zipWith, hx, hy]
end Go.Proofs.YtcccafphhmcifaaGreat
