/-
  Concessions of layer 11: the document's masses, and what is due by its words.
-/
import Derived.Test.YtcccafphhmcifaaGreatD2
set_option linter.unusedVariables false
set_option linter.unusedSimpArgs false
namespace Go.Proofs.YtcccafphhmcifaaGreat
open Go Go.Abs Go.Lease
variable {σ : Stack}

theorem C_check {c : Cn} (hc : Few c) : lim T (.call false i_lease_CheckConcession [cnD c] σ) = some (.val (.int .i64 (if cnOk c then 0 else 1)) σ) := by
  refine call_of T_lease_CheckConcession e_lease_CheckConcession rfl ?_
  have hV := fun σ => C_cvalid (σ := σ) hc
  simp only [cnD] at hV
  cases h1 : cnOk c
  · simp [-List.length_flatMap, -List.map_take, e_lease_CheckConcession_r0, e_lease_CheckConcession_r1, e_lease_CheckConcession_r2, e_lease_CheckConcession_r3, hV, h1]
  · simp [-List.length_flatMap, -List.map_take, e_lease_CheckConcession_r0, e_lease_CheckConcession_r1, e_lease_CheckConcession_r2, e_lease_CheckConcession_r3, hV, h1]
theorem L_Masses {c : Cn} {ms : List Int} (hl : ms.length ≤ 1000) : ∀ (m i : Nat), i + m = ms.length →
    WL T [1, 2, 5] false f_ref11_Masses_l6 [(1, .lst ms.length (ms.flatMap intE)), (2, .cref [.int .i64 c.h, .lst c.l.length (c.l.flatMap rowE)]), (5, .int .i64 i)] σ
      (fun x e σ' => σ' = σ ∧ if allB (ms.drop i) (fun n => inn n 0 1000000000000) then x = .exit 0 ∧ get e 1 = .lst ms.length (ms.flatMap intE) ∧ get e 2 = .cref [.int .i64 c.h, .lst c.l.length (c.l.flatMap rowE)] else x = .ret ∧ get e 4 = .bool false)
  | 0, i, hi => by
    refine WL_step e_ref11_Masses_l6 ?_
    have h1 : ¬ i < ms.length := by omega
    have h2 : ms.drop i = [] := List.drop_eq_nil_of_le (by omega)
    rw [h2]
    simp [-List.length_flatMap, -List.map_take, e_ref11_Masses_r0, e_ref11_Masses_r1, e_ref11_Masses_r2, e_ref11_Masses_r3, e_ref11_Masses_r4, e_ref11_Masses_r5, e_ref11_Masses_r7, h1, allB_nil]
  | m + 1, i, hi => by
    refine WL_step e_ref11_Masses_l6 ?_
    have h1 : i < ms.length := by omega
    obtain ⟨x, hx⟩ : ∃ x, ms[i]? = some x := ⟨_, List.getElem?_eq_getElem h1⟩
    have a1 := int_at hx
    have w1 := wnext h1 (by omega)
    have ih := L_Masses (c := c) hl m (i + 1) (by omega)
    rw [dropS hx, allB_cons]
    cases h2 : inn x 0 1000000000000
    · simp [-List.length_flatMap, -List.map_take, e_ref11_Masses_r0, e_ref11_Masses_r1, e_ref11_Masses_r2, e_ref11_Masses_r3, e_ref11_Masses_r4, e_ref11_Masses_r5, e_ref11_Masses_r7, h1, a1, w1, D_In, h2]
    · simp [-List.length_flatMap, -List.map_take, e_ref11_Masses_r0, e_ref11_Masses_r1, e_ref11_Masses_r2, e_ref11_Masses_r3, e_ref11_Masses_r4, e_ref11_Masses_r5, e_ref11_Masses_r7, h1, a1, w1, D_In, h2]
      exact WL.to ih (by simp) rfl fun x e σ hh => by simpa [h2] using hh
theorem C_Masses {c : Cn} {ms : List Int} (hl : ms.length ≤ 1000) : lim T (.call false i_ref11_Masses [cnD c, .lst ms.length (ms.flatMap intE)] σ) = some (.val (.bool (massOk c ms)) σ) := by
  refine call_of T_ref11_Masses e_ref11_Masses rfl ?_
  simp [-List.length_flatMap, -List.map_take, e_ref11_Masses_r0, e_ref11_Masses_r1, e_ref11_Masses_r2, e_ref11_Masses_r3, e_ref11_Masses_r4, e_ref11_Masses_r5, e_ref11_Masses_r7]
  refine WL.to (L_Masses (σ := [] :: σ) (c := c) hl ms.length 0 (by omega)) (by simp) rfl ?_
  rintro x e σ' ⟨rfl, hh⟩
  rw [List.drop_zero] at hh
  unfold massOk
  cases h2 : allB ms (fun n => inn n 0 1000000000000)
  · rw [h2] at hh
    simp only [Bool.false_eq_true, if_false] at hh
    obtain ⟨rfl, g4⟩ := hh
    simp [g4]
  · rw [h2] at hh
    simp only [if_true] at hh
    obtain ⟨rfl, g1, g2⟩ := hh
    by_cases h3 : ms.length = c.l.length
    · simp [-List.length_flatMap, -List.map_take, e_ref11_Masses_r7, g1, g2, h3]
    · have h4 : ¬ (ms.length : Int) = c.l.length := by omega
      simp [-List.length_flatMap, -List.map_take, e_ref11_Masses_r7, g1, g2, h3, h4]
theorem L_Due1 {ms : List Int} (hl : ms.length ≤ 1000) (hb : ∀ x ∈ ms, 0 ≤ x ∧ x ≤ 1000000000000) {d2 d6 : D} (s2 : d2.calm = d2) (s6 : d6.calm = d6) : ∀ (m i : Nat) (n : Int), i + m = ms.length → 0 ≤ n → n ≤ 1000000000000 * i →
    WL T [1, 2, 6, 7, 8] false f_ref11_Due_l7 [(1, .lst ms.length (ms.flatMap intE)), (2, d2), (6, d6), (7, .int .i64 n), (8, .int .i64 i)] σ
      (fun x e σ' => σ' = σ ∧ x = .exit 0 ∧ get e 1 = .lst ms.length (ms.flatMap intE) ∧ get e 2 = d2 ∧ get e 6 = d6 ∧ get e 7 = .int .i64 (n + sumI (ms.drop i)))
  | 0, i, n, hi, h0, hn => by
    refine WL_step e_ref11_Due_l7 ?_
    have h1 : ¬ i < ms.length := by omega
    have h2 : ms.drop i = [] := List.drop_eq_nil_of_le (by omega)
    rw [h2]
    simp [-List.length_flatMap, -List.map_take, e_ref11_Due_r0, e_ref11_Due_r1, e_ref11_Due_r2, e_ref11_Due_r3, e_ref11_Due_r4, e_ref11_Due_r5, e_ref11_Due_r6, e_ref11_Due_r8, e_ref11_Due_r9, e_ref11_Due_r10, e_ref11_Due_r11, e_ref11_Due_r12, e_ref11_Due_r13, e_ref11_Due_r14, e_ref11_Due_r16, e_ref11_Due_r17, e_ref11_Due_r18, e_ref11_Due_r20, h1, sumI, s2, s6]
  | m + 1, i, n, hi, h0, hn => by
    refine WL_step e_ref11_Due_l7 ?_
    have h1 : i < ms.length := by omega
    obtain ⟨x, hx⟩ : ∃ x, ms[i]? = some x := ⟨_, List.getElem?_eq_getElem h1⟩
    have hxb := hb x (List.mem_of_getElem? hx)
    have a1 := int_at hx
    have w1 := wnext h1 (by omega)
    have w2 := w64 (n := n + x) (by omega)
    have ih := L_Due1 hl hb s2 s6 m (i + 1) (n + x) (by omega) (by omega) (by omega)
    rw [dropS hx]
    simp [-List.length_flatMap, -List.map_take, e_ref11_Due_r0, e_ref11_Due_r1, e_ref11_Due_r2, e_ref11_Due_r3, e_ref11_Due_r4, e_ref11_Due_r5, e_ref11_Due_r6, e_ref11_Due_r8, e_ref11_Due_r9, e_ref11_Due_r10, e_ref11_Due_r11, e_ref11_Due_r12, e_ref11_Due_r13, e_ref11_Due_r14, e_ref11_Due_r16, e_ref11_Due_r17, e_ref11_Due_r18, e_ref11_Due_r20, h1, a1, w1, w2, s2, s6]
    refine WL.to ih (by simp) rfl ?_
    intro x e σ' hh
    simpa [sumI, Int.add_assoc] using hh
theorem L_Due2 {c : Cn} {ms : List Int} (hc : cnOk c = true) (hm : massOk c ms = true) {h : Nat} (hh : h < c.h.toNat) {d6 d7 : D} (s6 : d6.calm = d6) (s7 : d7.calm = d7) : ∀ (m i : Nat) (n : Int), i + m = ms.length → 0 ≤ n → n ≤ 1000000000000000 * i →
    WL T [1, 2, 6, 7, 9, 10, 11] false f_ref11_Due_l15 [(1, .lst ms.length (ms.flatMap intE)), (2, .cref [.int .i64 c.h, .lst c.l.length (c.l.flatMap rowE)]), (6, d6), (7, d7), (9, .int .i64 h), (10, .int .i64 n), (11, .int .i64 i)] σ
      (fun x e σ' => σ' = σ ∧ x = .exit 4 ∧ get e 1 = .lst ms.length (ms.flatMap intE) ∧ get e 2 = .cref [.int .i64 c.h, .lst c.l.length (c.l.flatMap rowE)] ∧ get e 6 = d6 ∧ get e 7 = d7 ∧ get e 9 = .int .i64 h ∧ get e 10 = .int .i64 (n + dot (ms.drop i) (c.l.drop i) h))
  | 0, i, n, hi, _, _ => by
    refine WL_step e_ref11_Due_l15 ?_
    have h1 : ¬ i < ms.length := by omega
    have h2 : ms.drop i = [] := List.drop_eq_nil_of_le (by omega)
    rw [h2]
    simp [-List.length_flatMap, -List.map_take, e_ref11_Due_r0, e_ref11_Due_r1, e_ref11_Due_r2, e_ref11_Due_r3, e_ref11_Due_r4, e_ref11_Due_r5, e_ref11_Due_r6, e_ref11_Due_r8, e_ref11_Due_r9, e_ref11_Due_r10, e_ref11_Due_r11, e_ref11_Due_r12, e_ref11_Due_r13, e_ref11_Due_r14, e_ref11_Due_r16, e_ref11_Due_r17, e_ref11_Due_r18, e_ref11_Due_r20, h1, dot, s6, s7]
  | m + 1, i, n, hi, n0, n1 => by
    refine WL_step e_ref11_Due_l15 ?_
    have hc1 := cnOk_iff.1 hc
    have hm1 := massOk_iff.1 hm
    have h1 : i < ms.length := by omega
    have h1' : i < c.l.length := by omega
    obtain ⟨x, hx⟩ : ∃ x, ms[i]? = some x := ⟨_, List.getElem?_eq_getElem h1⟩
    obtain ⟨r, hr⟩ : ∃ x, c.l[i]? = some x := ⟨_, List.getElem?_eq_getElem h1'⟩
    have hrk := hc1.2.2 r (List.mem_of_getElem? hr)
    have hrl := (rowOk_iff.1 hrk).1
    have h2 : h < r.length := by omega
    obtain ⟨s, hs⟩ : ∃ x, r[h]? = some x := ⟨_, List.getElem?_eq_getElem h2⟩
    have hsd := getD_of hs
    have hsb := share_bd hrk h
    rw [hsd] at hsb
    have hxb := hm1.2 x (List.mem_of_getElem? hx)
    have hq := mulS hxb hsb
    have a1 := int_at hx
    have a2 := row_at hr
    have a3 := int_at hs
    have w1 := wnext h1 (by omega)
    have w2 := w64 (n := x * s) (by omega)
    have w3 := w64 (n := n + x * s) (by omega)
    have ih := L_Due2 hc hm hh s6 s7 m (i + 1) (n + x * s) (by omega) (by omega) (by omega)
    rw [dropS hx, dropS hr]
    simp [-List.length_flatMap, -List.map_take, e_ref11_Due_r0, e_ref11_Due_r1, e_ref11_Due_r2, e_ref11_Due_r3, e_ref11_Due_r4, e_ref11_Due_r5, e_ref11_Due_r6, e_ref11_Due_r8, e_ref11_Due_r9, e_ref11_Due_r10, e_ref11_Due_r11, e_ref11_Due_r12, e_ref11_Due_r13, e_ref11_Due_r14, e_ref11_Due_r16, e_ref11_Due_r17, e_ref11_Due_r18, e_ref11_Due_r20, h1, h1', h2, a1, a2, a3, w1, w2, w3, s6, s7]
    refine WL.to ih (by simp) rfl ?_
    intro x e σ' hh
    simpa [dot, hs, Int.add_assoc] using hh
theorem L_Due3 (bs : List Blk) {c : Cn} {ms : List Int} (hc : cnOk c = true) (hm : massOk c ms = true) : ∀ (m j v : Nat), j + m = c.h.toNat →
    WL T [1, 2, 6, 7, 9] false f_ref11_Due_l19 [(1, .lst ms.length (ms.flatMap intE)), (2, .cref [.int .i64 c.h, .lst c.l.length (c.l.flatMap rowE)]), (6, .sl σ.length bs.length v 0 j 1), (7, .int .i64 (sumI ms - sumI (dueTo c ms j))), (9, .int .i64 j)]
      ((bs ++ [.cells v ((dueTo c ms j).flatMap intE)]) :: σ)
      (fun x e σ' => x = .exit 2 ∧ get e 6 = .sl σ.length bs.length (v + m) 0 (dueL c ms).length 1 ∧ get e 7 = .int .i64 (dueR c ms) ∧ σ' = (bs ++ [.cells (v + m) ((dueL c ms).flatMap intE)]) :: σ)
  | 0, j, v, hj => by
    refine WL_step e_ref11_Due_l19 ?_
    have hc1 := cnOk_iff.1 hc
    have h1 : ¬ (j : Int) < c.h := by omega
    have h2 : dueTo c ms j = dueL c ms := by unfold dueTo dueL; rw [show j = c.h.toNat by omega]
    have h3 : (dueL c ms).length = j := by rw [← h2, dueTo_len]
    simp [-List.length_flatMap, -List.map_take, e_ref11_Due_r0, e_ref11_Due_r1, e_ref11_Due_r2, e_ref11_Due_r3, e_ref11_Due_r4, e_ref11_Due_r5, e_ref11_Due_r6, e_ref11_Due_r8, e_ref11_Due_r9, e_ref11_Due_r10, e_ref11_Due_r11, e_ref11_Due_r12, e_ref11_Due_r13, e_ref11_Due_r14, e_ref11_Due_r16, e_ref11_Due_r17, e_ref11_Due_r18, e_ref11_Due_r20, h1, h2, h3, dueR]
  | m + 1, j, v, hj => by
    refine WL_step e_ref11_Due_l19 ?_
    have hc1 := cnOk_iff.1 hc
    have hm1 := massOk_iff.1 hm
    have h1 : (j : Int) < c.h := by omega
    have h1' : j < c.h.toNat := by omega
    simp [-List.length_flatMap, -List.map_take, e_ref11_Due_r0, e_ref11_Due_r1, e_ref11_Due_r2, e_ref11_Due_r3, e_ref11_Due_r4, e_ref11_Due_r5, e_ref11_Due_r6, e_ref11_Due_r8, e_ref11_Due_r9, e_ref11_Due_r10, e_ref11_Due_r11, e_ref11_Due_r12, e_ref11_Due_r13, e_ref11_Due_r14, e_ref11_Due_r16, e_ref11_Due_r17, e_ref11_Due_r18, e_ref11_Due_r20, h1]
    refine WL.to (L_Due2 (σ := (bs ++ [.cells v ((dueTo c ms j).flatMap intE)]) :: σ) hc hm h1' (d6 := .sl σ.length bs.length v 0 j 1) (d7 := .int .i64 (sumI ms - sumI (dueTo c ms j))) rfl rfl ms.length 0 0 (by omega) (by omega) (by omega)) (by simp) rfl ?_
    rintro x e σ' ⟨rfl, rfl, g1, g2, g6, g7, g9, g10⟩
    rw [List.drop_zero, List.drop_zero, Int.zero_add] at g10
    have hd := dot_bd (h := j) hc1.2.2 hm1.2
    have hs := dueTo_bd hc hm (j := j)
    have hsm := sumI_bd (lo := 0) (hi := 1000000000000) hm1.2
    have w1 := w64 (n := dot ms c.l j / 1000) (by omega)
    have w2 := w64 (n := sumI ms - sumI (dueTo c ms j) - dot ms c.l j / 1000) (by omega)
    have w3 := w64 (n := (j : Int) + 1) (by omega)
    have t1 := tdiv1000 hd.1
    have f1 := flat_len (f := intE) (w := 1) (fun _ => rfl) (dueTo c ms j)
    rw [dueTo_len, Nat.mul_one] at f1
    have f2 : ((dueTo c ms j).flatMap intE).take j = (dueTo c ms j).flatMap intE := List.take_of_length_le (by omega)
    have f3 : (j + 1) * 8 ≤ room := by unfold room; omega
    have ih := L_Due3 bs hc hm m (j + 1) (v + 1) (by omega)
    have e1 : (dueTo c ms j).flatMap intE ++ [.int .i64 (dot ms c.l j / 1000)] = (dueTo c ms (j + 1)).flatMap intE := by rw [dueTo_succ, List.flatMap_append]; rfl
    simp [-List.length_flatMap, -List.map_take, e_ref11_Due_r9, e_ref11_Due_r16, e_ref11_Due_r17, e_ref11_Due_r18, g1, g2, g6, g7, g9, g10, w1, w2, w3, t1, f1, f2, f3, get_last, set_last]
    refine WL.to ih ?_ ?_ ?_
    · simp [dueTo_succ, sumI_app, sumI]; omega
    · simp [← e1]
    · intro x e σ hh; simpa [Nat.add_assoc, Nat.add_comm 1 m] using hh
theorem C_DueR {c : Cn} {ms : List Int} (hc : cnOk c = true) (hm : massOk c ms = true) (hσ : σ ≠ []) : lim T (.call false i_ref11_Due [cnD c, .lst ms.length (ms.flatMap intE)] σ) = some (.val (.tup [.lst (dueL c ms).length ((dueL c ms).flatMap intE), .int .i64 (dueR c ms)]) σ) := by
  refine call_of T_ref11_Due e_ref11_Due rfl ?_
  have hc1 := cnOk_iff.1 hc
  have hm1 := massOk_iff.1 hm
  simp [-List.length_flatMap, -List.map_take, e_ref11_Due_r0, e_ref11_Due_r1, e_ref11_Due_r2, e_ref11_Due_r3, e_ref11_Due_r4, e_ref11_Due_r5, e_ref11_Due_r6, e_ref11_Due_r8, e_ref11_Due_r9, e_ref11_Due_r10, e_ref11_Due_r11, e_ref11_Due_r12, e_ref11_Due_r13, e_ref11_Due_r14, e_ref11_Due_r16, e_ref11_Due_r17, e_ref11_Due_r18, e_ref11_Due_r20]
  refine WL.to (L_Due1 (σ := [.cells 0 []] :: σ) (by omega) hm1.2 (d2 := .cref [.int .i64 c.h, .lst c.l.length (c.l.flatMap rowE)]) (d6 := .sl σ.length 0 0 0 0 1) rfl rfl ms.length 0 0 (by omega) (by omega) (by omega)) (by simp) rfl ?_
  rintro x e σ' ⟨rfl, rfl, g1, g2, g6, g7⟩
  rw [List.drop_zero, Int.zero_add] at g7
  simp [-List.length_flatMap, -List.map_take, e_ref11_Due_r8, g1, g2, g6, g7]
  refine WL.to (L_Due3 (σ := σ) [] hc hm c.h.toNat 0 0 (by omega)) (by simp [dueTo, sumI]) (by simp [dueTo]) ?_
  rintro x e σ' ⟨rfl, g6, g7, rfl⟩
  simp [-List.length_flatMap, -List.map_take, e_ref11_Due_r20, g6, g7]
  rw [frz_tup (by simp) (by omega)]
  simp only [frzL_cons, frzL_nil]
  rw [out_at (f := intE) (w := 1) (by decide) (fun _ => rfl) (fun x => by simp) hσ (by simp)]
  simp
/-- .. kept in its caller's segment. -/
theorem C_DueRK {c : Cn} {ms : List Int} (hc : cnOk c = true) (hm : massOk c ms = true) {bs : List Blk} : lim T (.call true i_ref11_Due [cnD c, .lst ms.length (ms.flatMap intE)] (bs :: σ)) = some (.val (.tup [.sl σ.length bs.length (0 + c.h.toNat) 0 (dueL c ms).length 1, .int .i64 (dueR c ms)]) ((bs ++ [.cells (0 + c.h.toNat) ((dueL c ms).flatMap intE)]) :: σ)) := by
  have hc1 := cnOk_iff.1 hc
  have hm1 := massOk_iff.1 hm
  refine call_kp T_ref11_Due e_ref11_Due rfl ?_
  simp [-List.length_flatMap, -List.map_take, e_ref11_Due_r0, e_ref11_Due_r1, e_ref11_Due_r2, e_ref11_Due_r3, e_ref11_Due_r4, e_ref11_Due_r5, e_ref11_Due_r6, e_ref11_Due_r8, e_ref11_Due_r9, e_ref11_Due_r10, e_ref11_Due_r11, e_ref11_Due_r12, e_ref11_Due_r13, e_ref11_Due_r14, e_ref11_Due_r16, e_ref11_Due_r17, e_ref11_Due_r18, e_ref11_Due_r20]
  refine WL.to (L_Due1 (σ := (bs ++ [.cells 0 []]) :: σ) (by omega) hm1.2 (d2 := .cref [.int .i64 c.h, .lst c.l.length (c.l.flatMap rowE)]) (d6 := .sl σ.length bs.length 0 0 0 1) rfl rfl ms.length 0 0 (by omega) (by omega) (by omega)) (by simp) rfl ?_
  rintro x e σ' ⟨rfl, rfl, g1, g2, g6, g7⟩
  rw [List.drop_zero, Int.zero_add] at g7
  simp [-List.length_flatMap, -List.map_take, e_ref11_Due_r8, g1, g2, g6, g7]
  refine WL.to (L_Due3 (σ := σ) bs hc hm c.h.toNat 0 0 (by omega)) (by simp [dueTo, sumI]) (by simp [dueTo]) ?_
  rintro x e σ' ⟨rfl, g6, g7, rfl⟩
  simp [-List.length_flatMap, -List.map_take, e_ref11_Due_r20, g6, g7]
/-- The law's own loop: what was due at first goes. -/
theorem L_sub {a b : List Int} (hl : a.length ≤ 1000) (hab : a.length = b.length) (ha : ∀ x ∈ a, 0 ≤ x ∧ x ≤ 1000000000000000) (hb : ∀ x ∈ b, 0 ≤ x ∧ x ≤ 1000000000000000) {d10 d11 d12 d16 d18 : D} (s10 : d10.calm = d10) (s11 : d11.calm = d11) (s12 : d12.calm = d12) (s16 : d16.calm = d16) (s18 : d18.calm = d18) {v : Nat} : ∀ (m i : Nat), i + m = a.length →
    WL T [10, 11, 12, 15, 16, 17, 18, 19] false f_law11_LeaseDues_l22 [(10, d10), (11, d11), (12, d12), (15, .lst b.length (b.flatMap intE)), (16, d16), (17, .sl σ.length 0 v 0 a.length 1), (18, d18), (19, .int .i64 i)] ([.cells v ((mixI (subI a b) a i).flatMap intE)] :: σ)
      (fun x e σ' => x = .exit 0 ∧ get e 10 = d10 ∧ get e 11 = d11 ∧ get e 12 = d12 ∧ get e 16 = d16 ∧ get e 17 = .sl σ.length 0 v 0 a.length 1 ∧ get e 18 = d18 ∧ σ' = [.cells v ((subI a b).flatMap intE)] :: σ)
  | 0, i, hi => by
    refine WL_step e_law11_LeaseDues_l22 ?_
    have h1 : ¬ i < a.length := by omega
    have h2 : i = (subI a b).length := by rw [sub_len (by omega)]; omega
    have h3 : mixI (subI a b) a i = subI a b := by rw [h2]; exact mix_all (by rw [sub_len (by omega)]; omega)
    simp [-List.length_flatMap, -List.map_take, e_law11_LeaseDues_r0, e_law11_LeaseDues_r1, e_law11_LeaseDues_r2, e_law11_LeaseDues_r3, e_law11_LeaseDues_r4, e_law11_LeaseDues_r5, e_law11_LeaseDues_r6, e_law11_LeaseDues_r7, e_law11_LeaseDues_r8, e_law11_LeaseDues_r9, e_law11_LeaseDues_r10, e_law11_LeaseDues_r11, e_law11_LeaseDues_r12, e_law11_LeaseDues_r13, e_law11_LeaseDues_r14, e_law11_LeaseDues_r15, e_law11_LeaseDues_r16, e_law11_LeaseDues_r17, e_law11_LeaseDues_r18, e_law11_LeaseDues_r19, e_law11_LeaseDues_r20, e_law11_LeaseDues_r21, e_law11_LeaseDues_r23, h1, s10, s11, s12, s16, s18, h3]
  | m + 1, i, hi => by
    refine WL_step e_law11_LeaseDues_l22 ?_
    have h1 : i < a.length := by omega
    have h1' : i < b.length := by omega
    obtain ⟨x, hx⟩ : ∃ x, a[i]? = some x := ⟨_, List.getElem?_eq_getElem h1⟩
    obtain ⟨y, hy⟩ : ∃ x, b[i]? = some x := ⟨_, List.getElem?_eq_getElem h1'⟩
    have hxb := ha x (List.mem_of_getElem? hx)
    have hyb := hb y (List.mem_of_getElem? hy)
    have hL : (subI a b).length = a.length := sub_len (by omega)
    have hg : (mixI (subI a b) a i)[i]? = some x := by rw [mix_get hL (by omega), hx]
    have a1 := int_at hg
    have a2 := int_at hy
    have a3 := mix_write hL (sub_get hx hy)
    have a4 := flat_len (f := intE) (w := 1) (fun _ => rfl) (mixI (subI a b) a i)
    rw [mix_len hL (by omega), Nat.mul_one] at a4
    have a5 : ((mixI (subI a b) a i).flatMap intE).drop i = .int .i64 x :: ((mixI (subI a b) a i).flatMap intE).drop (i + 1) := by
      have := k_drop (f := intE) (w := 1) (fun _ => rfl) hg
      simpa using this
    have w1 := wnext h1 (by omega)
    have w2 := w64 (n := x - y) (by omega)
    have ih := L_sub hl hab ha hb s10 s11 s12 s16 s18 (v := v) m (i + 1) (by omega)
    have h6 : i + 1 ≤ a.length := by omega
    simp [-List.length_flatMap, -List.map_take, e_law11_LeaseDues_r0, e_law11_LeaseDues_r1, e_law11_LeaseDues_r2, e_law11_LeaseDues_r3, e_law11_LeaseDues_r4, e_law11_LeaseDues_r5, e_law11_LeaseDues_r6, e_law11_LeaseDues_r7, e_law11_LeaseDues_r8, e_law11_LeaseDues_r9, e_law11_LeaseDues_r10, e_law11_LeaseDues_r11, e_law11_LeaseDues_r12, e_law11_LeaseDues_r13, e_law11_LeaseDues_r14, e_law11_LeaseDues_r15, e_law11_LeaseDues_r16, e_law11_LeaseDues_r17, e_law11_LeaseDues_r18, e_law11_LeaseDues_r19, e_law11_LeaseDues_r20, e_law11_LeaseDues_r21, e_law11_LeaseDues_r23, h1, h1', a1, a2, a3, a4, a5, w1, w2, h6, s10, s11, s12, s16, s18]
    exact WL.to ih (by simp) rfl fun x e σ hh => hh
end Go.Proofs.YtcccafphhmcifaaGreat
