/-
  The law LeaseDues answers true.
-/
import Derived.Test.YtcccafphhmcifaaGreatD3
import Derived.Test.YtcccafphhmcifaaGreatW
import Derived.Test.YtcccafphhmcifaaGreatW2
import Derived.Test.YtcccafphhmcifaaGreatTremTyK
set_option linter.unusedVariables false
set_option linter.unusedSimpArgs false
namespace Go.Proofs.YtcccafphhmcifaaGreat
open Go Go.Abs Go.Lease
variable {σ : Stack}

theorem law_Dues {c : Cn} (hcl : c.l.length ≤ 9223372036854775807) {bf nw : List Int} (hbi : ∀ x ∈ bf, -9223372036854775808 ≤ x ∧ x ≤ 9223372036854775807) : lim T (.call false i_law11_LeaseDues [cnD c, .lst bf.length (bf.flatMap intE), .lst nw.length (nw.flatMap intE)] [[]]) = some (.val (.bool true) [[]]) := by
  refine call_of T_law11_LeaseDues e_law11_LeaseDues rfl ?_
  have hF := fun σ => C_few (σ := σ) hcl
  simp only [cnD] at hF
  cases f1 : fewB c
  · simp [-List.length_flatMap, -List.map_take, e_law11_LeaseDues_r0, e_law11_LeaseDues_r1, e_law11_LeaseDues_r2, e_law11_LeaseDues_r3, e_law11_LeaseDues_r4, e_law11_LeaseDues_r5, e_law11_LeaseDues_r6, e_law11_LeaseDues_r7, e_law11_LeaseDues_r8, e_law11_LeaseDues_r9, e_law11_LeaseDues_r10, e_law11_LeaseDues_r11, e_law11_LeaseDues_r12, e_law11_LeaseDues_r13, e_law11_LeaseDues_r14, e_law11_LeaseDues_r15, e_law11_LeaseDues_r16, e_law11_LeaseDues_r17, e_law11_LeaseDues_r18, e_law11_LeaseDues_r19, e_law11_LeaseDues_r20, e_law11_LeaseDues_r21, e_law11_LeaseDues_r23, hF, f1, C_wakes]
  by_cases hb : bf.length ≤ 30
  rotate_left
  · have h1 : (30 : Int) < bf.length := by omega
    simp [-List.length_flatMap, -List.map_take, e_law11_LeaseDues_r0, e_law11_LeaseDues_r1, e_law11_LeaseDues_r2, e_law11_LeaseDues_r3, e_law11_LeaseDues_r4, e_law11_LeaseDues_r5, e_law11_LeaseDues_r6, e_law11_LeaseDues_r7, e_law11_LeaseDues_r8, e_law11_LeaseDues_r9, e_law11_LeaseDues_r10, e_law11_LeaseDues_r11, e_law11_LeaseDues_r12, e_law11_LeaseDues_r13, e_law11_LeaseDues_r14, e_law11_LeaseDues_r15, e_law11_LeaseDues_r16, e_law11_LeaseDues_r17, e_law11_LeaseDues_r18, e_law11_LeaseDues_r19, e_law11_LeaseDues_r20, e_law11_LeaseDues_r21, e_law11_LeaseDues_r23, hF, f1, h1, C_wakes]
  have hb1 : ¬ (30 : Int) < bf.length := by omega
  by_cases hn : nw.length ≤ 30
  rotate_left
  · have h1 : (30 : Int) < nw.length := by omega
    simp [-List.length_flatMap, -List.map_take, e_law11_LeaseDues_r0, e_law11_LeaseDues_r1, e_law11_LeaseDues_r2, e_law11_LeaseDues_r3, e_law11_LeaseDues_r4, e_law11_LeaseDues_r5, e_law11_LeaseDues_r6, e_law11_LeaseDues_r7, e_law11_LeaseDues_r8, e_law11_LeaseDues_r9, e_law11_LeaseDues_r10, e_law11_LeaseDues_r11, e_law11_LeaseDues_r12, e_law11_LeaseDues_r13, e_law11_LeaseDues_r14, e_law11_LeaseDues_r15, e_law11_LeaseDues_r16, e_law11_LeaseDues_r17, e_law11_LeaseDues_r18, e_law11_LeaseDues_r19, e_law11_LeaseDues_r20, e_law11_LeaseDues_r21, e_law11_LeaseDues_r23, hF, f1, hb1, h1, C_wakes]
  have hn1 : ¬ (30 : Int) < nw.length := by omega
  have hc := fewB_iff.1 f1
  have hC := fun σ (hσ : σ ≠ []) => C_Conc (σ := σ) hc hσ
  have hlb := fun σ (hσ : σ ≠ []) => C_list (σ := σ) (l := bf) (by omega) hσ
  have hln := fun σ (hσ : σ ≠ []) => C_list (σ := σ) (l := nw) (by omega) hσ
  have hD := fun σ (hσ : σ ≠ []) => C_Due (σ := σ) hc (ms := nw) (by omega) hσ
  have hV := fun σ (hσ : σ ≠ []) => C_Divide (σ := σ) hc (bf := bf) (nw := nw) (by omega) (by omega) hσ
  have hR := fun σ => C_Right (σ := σ) hc
  have hK := fun σ => C_check (σ := σ) hc
  have hMn := fun σ => C_Masses (σ := σ) (c := c) (ms := nw) (by omega)
  have hMb := fun σ => C_Masses (σ := σ) (c := c) (ms := bf) (by omega)
  unfold due3 at hD
  unfold div3 at hV
  simp only [cnD] at hC hD hV hR hK hMn hMb
  cases c1 : cnOk c
  · simp only [c1, Bool.false_eq_true, if_false] at hD hV hK
    simp [-List.length_flatMap, -List.map_take, e_law11_LeaseDues_r0, e_law11_LeaseDues_r1, e_law11_LeaseDues_r2, e_law11_LeaseDues_r3, e_law11_LeaseDues_r4, e_law11_LeaseDues_r5, e_law11_LeaseDues_r6, e_law11_LeaseDues_r7, e_law11_LeaseDues_r8, e_law11_LeaseDues_r9, e_law11_LeaseDues_r10, e_law11_LeaseDues_r11, e_law11_LeaseDues_r12, e_law11_LeaseDues_r13, e_law11_LeaseDues_r14, e_law11_LeaseDues_r15, e_law11_LeaseDues_r16, e_law11_LeaseDues_r17, e_law11_LeaseDues_r18, e_law11_LeaseDues_r19, e_law11_LeaseDues_r20, e_law11_LeaseDues_r21, e_law11_LeaseDues_r23, hF, f1, hb1, hn1, hC, hlb, hln, hD, hV, hR, hK, c1, C_wakes]
  simp only [c1, if_true] at hD hV hK
  cases c2 : massOk c nw
  · simp only [c2, Bool.and_false, Bool.false_and, Bool.false_eq_true, if_false] at hD hV
    simp [-List.length_flatMap, -List.map_take, e_law11_LeaseDues_r0, e_law11_LeaseDues_r1, e_law11_LeaseDues_r2, e_law11_LeaseDues_r3, e_law11_LeaseDues_r4, e_law11_LeaseDues_r5, e_law11_LeaseDues_r6, e_law11_LeaseDues_r7, e_law11_LeaseDues_r8, e_law11_LeaseDues_r9, e_law11_LeaseDues_r10, e_law11_LeaseDues_r11, e_law11_LeaseDues_r12, e_law11_LeaseDues_r13, e_law11_LeaseDues_r14, e_law11_LeaseDues_r15, e_law11_LeaseDues_r16, e_law11_LeaseDues_r17, e_law11_LeaseDues_r18, e_law11_LeaseDues_r19, e_law11_LeaseDues_r20, e_law11_LeaseDues_r21, e_law11_LeaseDues_r23, hF, f1, hb1, hn1, hC, hlb, hln, hD, hV, hR, hK, hMn, c1, c2, C_wakes]
  simp only [c2, Bool.and_true, if_true] at hD hV
  have hI := fun σ (a : List Int) (h : a.length ≤ 9223372036854775807) => C_ints (σ := σ) (a := a) (b := a) h
  have hDR := fun σ (hσ : σ ≠ []) => C_DueR (σ := σ) c1 c2 hσ
  simp only [cnD] at hDR
  have hcc := cnOk_iff.1 c1
  have hi1 := fun σ => hI σ (dueL c nw) (by rw [dueL_len]; omega)
  cases c3 : massOk c bf
  · simp only [c3, Bool.false_and, Bool.false_eq_true, if_false] at hV
    simp [-List.length_flatMap, -List.map_take, e_law11_LeaseDues_r0, e_law11_LeaseDues_r1, e_law11_LeaseDues_r2, e_law11_LeaseDues_r3, e_law11_LeaseDues_r4, e_law11_LeaseDues_r5, e_law11_LeaseDues_r6, e_law11_LeaseDues_r7, e_law11_LeaseDues_r8, e_law11_LeaseDues_r9, e_law11_LeaseDues_r10, e_law11_LeaseDues_r11, e_law11_LeaseDues_r12, e_law11_LeaseDues_r13, e_law11_LeaseDues_r14, e_law11_LeaseDues_r15, e_law11_LeaseDues_r16, e_law11_LeaseDues_r17, e_law11_LeaseDues_r18, e_law11_LeaseDues_r19, e_law11_LeaseDues_r20, e_law11_LeaseDues_r21, e_law11_LeaseDues_r23, hF, f1, hb1, hn1, hC, hlb, hln, hD, hV, hR, hK, hMn, hMb, hDR, hi1, c1, c2, c3, C_wakes]
  simp only [c3, Bool.true_and] at hV
  have n1 := massOk_iff.1 c2
  have b1 := massOk_iff.1 c3
  have hL : (bothI bf nw).length = bf.length := both_len (by omega)
  have hB := fun σ (hσ : σ ≠ []) => C_Both (σ := σ) (a := bf) (b := nw) (by omega) (by omega) (fun x hx => by have := b1.2 x hx; omega) (fun x hx => by have := n1.2 x hx; omega) hσ
  have hMB := fun σ => C_Masses (σ := σ) (c := c) (ms := bothI bf nw) (by omega)
  simp only [cnD] at hMB
  rw [hL] at hB hMB
  cases c4 : massOk c (bothI bf nw)
  · simp only [c4, Bool.false_eq_true, if_false] at hV
    simp [-List.length_flatMap, -List.map_take, e_law11_LeaseDues_r0, e_law11_LeaseDues_r1, e_law11_LeaseDues_r2, e_law11_LeaseDues_r3, e_law11_LeaseDues_r4, e_law11_LeaseDues_r5, e_law11_LeaseDues_r6, e_law11_LeaseDues_r7, e_law11_LeaseDues_r8, e_law11_LeaseDues_r9, e_law11_LeaseDues_r10, e_law11_LeaseDues_r11, e_law11_LeaseDues_r12, e_law11_LeaseDues_r13, e_law11_LeaseDues_r14, e_law11_LeaseDues_r15, e_law11_LeaseDues_r16, e_law11_LeaseDues_r17, e_law11_LeaseDues_r18, e_law11_LeaseDues_r19, e_law11_LeaseDues_r20, e_law11_LeaseDues_r21, e_law11_LeaseDues_r23, hF, f1, hb1, hn1, hC, hlb, hln, hD, hV, hR, hK, hMn, hMb, hDR, hi1, hB, hMB, c1, c2, c3, c4, C_wakes]
  simp only [c4, if_true] at hV
  have hDB := fun σ (hσ : σ ≠ []) => C_DueR (σ := σ) c1 c3 hσ
  have hDK := C_DueRK (σ := [[]]) c1 c4 (bs := [])
  simp only [cnD] at hDB hDK
  rw [hL] at hDK
  have e1 := dueL_len (c := c) (ms := bothI bf nw)
  have e2 := dueL_len (c := c) (ms := bf)
  have e3 := dueL_len (c := c) (ms := nw)
  have q1 := dueL_bd c1 c4
  have q2 := dueL_bd c1 c3
  simp [-List.length_flatMap, -List.map_take, e_law11_LeaseDues_r0, e_law11_LeaseDues_r1, e_law11_LeaseDues_r2, e_law11_LeaseDues_r3, e_law11_LeaseDues_r4, e_law11_LeaseDues_r5, e_law11_LeaseDues_r6, e_law11_LeaseDues_r7, e_law11_LeaseDues_r8, e_law11_LeaseDues_r9, e_law11_LeaseDues_r10, e_law11_LeaseDues_r11, e_law11_LeaseDues_r12, e_law11_LeaseDues_r13, e_law11_LeaseDues_r14, e_law11_LeaseDues_r15, e_law11_LeaseDues_r16, e_law11_LeaseDues_r17, e_law11_LeaseDues_r18, e_law11_LeaseDues_r19, e_law11_LeaseDues_r20, e_law11_LeaseDues_r21, e_law11_LeaseDues_r23, hF, f1, hb1, hn1, hC, hlb, hln, hD, hV, hR, hK, hMn, hMb, hDR, hi1, hB, hMB, hDB, hDK, c1, c2, c3, c4, C_wakes]
  refine WL.to (L_sub (σ := [[]]) (a := dueL c (bothI bf nw)) (b := dueL c bf) (by omega) (by omega) (fun x hx => by have := q1 x hx; omega) (fun x hx => by have := q2 x hx; omega) (d10 := .lst (dueL c nw).length ((subI (dueL c (bothI bf nw)) (dueL c bf)).flatMap intE)) (d11 := .int .i64 (dueR c (bothI bf nw) - dueR c bf)) (d12 := .int .i64 0) (d16 := .int .i64 (dueR c bf)) (d18 := .int .i64 (dueR c (bothI bf nw))) rfl rfl rfl rfl rfl (v := c.h.toNat) (dueL c (bothI bf nw)).length 0 (by omega)) (by simp) (by simp [mix_zero]) ?_
  rintro x e σ' ⟨rfl, g10, g11, g12, g16, g17, g18, rfl⟩
  have hs : (subI (dueL c (bothI bf nw)) (dueL c bf)).length = (dueL c (bothI bf nw)).length := sub_len (by omega)
  have hz := k_frz (f := intE) (w := 1) (fun _ => rfl) (fun x => by simp) (l := subI (dueL c (bothI bf nw)) (dueL c bf)) (j := 0) (v := c.h.toNat) (bs := [.cells c.h.toNat ((subI (dueL c (bothI bf nw)) (dueL c bf)).flatMap intE)]) (σ := [[]]) (by simp) rfl
  have e4 : (dueL c nw).length = (subI (dueL c (bothI bf nw)) (dueL c bf)).length := by rw [hs, e1, e3]
  have hi2 := fun σ => hI σ (subI (dueL c (bothI bf nw)) (dueL c bf)) (by omega)
  have w1 : IntKind.i64.wrap (dueR c (bothI bf nw) - dueR c bf) = dueR c (bothI bf nw) - dueR c bf := by
    have hq : ∀ ms, massOk c ms = true → 0 ≤ dueR c ms ∧ dueR c ms ≤ 20000000000000 := fun ms hm => by
      have q1 := dueR_nonneg c1 hm
      have q2 := massOk_iff.1 hm
      have q3 := sumI_bd (lo := 0) (hi := 1000000000000) q2.2
      have q4 := sumI_bd (lo := 0) (hi := 20000020000000) (dueL_bd c1 hm)
      unfold dueR at q1 ⊢
      omega
    have q1 := hq _ c4
    have q2 := hq _ c3
    exact w64 (by omega)
  rw [e4] at g10
  rw [← hs] at g17
  simp only [List.length_cons, List.length_nil, Nat.zero_add] at hz g17
  simp [-List.length_flatMap, -List.map_take, e_law11_LeaseDues_r23, g10, g11, g12, g16, g17, g18, hz, hi2, w1, C_wakesD, C_wakes]
theorem rows_i64 {ds : List D} (h : (Ty.int .i64).has ds) : ∃ x : Int, ds = intE x ∧ (-9223372036854775808 ≤ x ∧ x ≤ 9223372036854775807) := by
  obtain ⟨n, rfl, hw⟩ := h
  exact ⟨n, rfl, wf_i64 hw⟩
theorem row_i64 {ds : List D} (h : (Ty.slice 1 (.int .i64)).has ds) : ∃ r : List Int, ds = rowE r ∧ True := by
  obtain ⟨d, rfl⟩ := slice_one h
  obtain ⟨l, rfl, _, _⟩ := rows_of (fun ds h => rows_i64 h) h
  exact ⟨l, rfl, trivial⟩
theorem cn_of {d : D} (h : (Ty.struct [.int .i64, .slice 1 (.slice 1 (.int .i64))]).hasV d) : ∃ c : Cn, d = cnD c ∧ c.l.length ≤ maxLen := by
  obtain ⟨ds, rfl, h⟩ := h
  obtain ⟨_, _, rfl, ⟨w, rfl, _⟩, _, _, rfl, hs, rfl⟩ := h
  obtain ⟨d, rfl⟩ := slice_one hs
  obtain ⟨l, rfl, hl, _⟩ := rows_of (fun ds h => row_i64 h) hs
  exact ⟨⟨w, l⟩, rfl, hl⟩
theorem go_LeaseDues (x0 x1 x2 : D) (t0 : (Ty.struct [.int .i64, .slice 1 (.slice 1 (.int .i64))]).hasV x0) (t1 : (Ty.slice 1 (.int .i64)).hasV x1) (t2 : (Ty.slice 1 (.int .i64)).hasV x2) :
    ∃ σ', lim T (.call false i_law11_LeaseDues [x0, x1, x2] [[]]) = some (.val (.bool true) σ') := by
  obtain ⟨c, rfl, hc⟩ := cn_of t0
  obtain ⟨bf, rfl, _, hb⟩ := rows_of (fun ds h => rows_i64 h) t1
  obtain ⟨nw, rfl, _, _⟩ := rows_of (fun ds h => rows_i64 h) t2
  exact ⟨_, law_Dues (by unfold maxLen at hc; omega) hb⟩
end Go.Proofs.YtcccafphhmcifaaGreat
