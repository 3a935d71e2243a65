/-
  The law LeaseAll answers true.
-/

import Derived.Test.YtcccafphhmcifaaD2
import Derived.Test.YtcccafphhmcifaaAllSpec
import Derived.Test.YtcccafphhmcifaaW
import Derived.Test.YtcccafphhmcifaaW3
import Derived.Test.YtcccafphhmcifaaTremTyK
set_option linter.unusedVariables false
set_option linter.unusedSimpArgs false
namespace Go.Proofs.Ytcccafphhmcifaa
open Go Go.Abs Go.Lease
variable {σ : Stack}

theorem u32_at {l : List Int} {i : Nat} {x : Int} (hx : l[i]? = some x) : ((l.flatMap u32E).drop i).take 1 = [.int .u32 x] := by
  have := flat_at (f := u32E) (w := 1) (fun _ => rfl) hx
  simpa using this
theorem rowU_at {l : List (List Int)} {i : Nat} {x : List Int} (hx : l[i]? = some x) : ((l.flatMap rowU).drop i).take 1 = [.lst x.length (x.flatMap u32E)] := by
  have := flat_at (f := rowU) (w := 1) (fun _ => rfl) hx
  simpa using this
@[simp] theorem cu {l : List (List Int)} : D.cleanL (l.flatMap rowU) = true := k_clean (fun x => by simp [k_clean]) _
@[simp] def cnO (c : Cn) : D := .own 0 [.int .i64 c.h, .lst c.l.length (c.l.flatMap rowE)]
@[simp] def cnC (c : Cn) : D := .cref [.int .i64 c.h, .lst c.l.length (c.l.flatMap rowE)]
/-- The masses of a tick. -/
theorem L_now {ts : List (List Int)} {t : Nat} {r : List Int} (ht : ts[t]? = some r) {n : Nat} (hn : n ≤ 1000) (hr : ∀ x ∈ r, 0 ≤ x ∧ x ≤ 4294967295) {d2 d5 d6 d7 d8 : D} (s2 : d2.calm = d2) (s5 : d5.calm = d5) (s6 : d6.calm = d6) (s7 : d7.calm = d7) (s8 : d8.calm = d8) : ∀ (m i : Nat) (ms : Int), i + m = min n r.length → 0 ≤ ms → ms ≤ 1000000000000000000 + 4294967295 * i →
    WL T [1, 2, 5, 6, 7, 8, 9, 10, 11, 12] false f_law11_LeaseAll_l15 [(1, .lst ts.length (ts.flatMap rowU)), (2, d2), (5, d5), (6, d6), (7, d7), (8, d8), (9, .int .i64 ms), (10, .int .i64 t), (11, .sl σ.length 0 0 0 n 1), (12, .int .i64 i)] ([.cells 0 ((mixI (nowL n r) (zeroL n) i).flatMap intE)] :: σ)
      (fun x e σ' => x = .exit 2 ∧ get e 1 = .lst ts.length (ts.flatMap rowU) ∧ get e 2 = d2 ∧ get e 5 = d5 ∧ get e 6 = d6 ∧ get e 7 = d7 ∧ get e 8 = d8 ∧ get e 9 = .int .i64 (ms + sumI (((nowL n r).take (min n r.length)).drop i)) ∧ get e 10 = .int .i64 t ∧ get e 11 = .sl σ.length 0 0 0 n 1 ∧ σ' = [.cells 0 ((nowL n r).flatMap intE)] :: σ)
  | 0, i, ms, hi, h0, h1 => by
    refine WL_step e_law11_LeaseAll_l15 ?_
    have ht1 : t < ts.length := (List.getElem?_eq_some_iff.1 ht).1
    have a1 := rowU_at ht
    have h4 : mixI (nowL n r) (zeroL n) i = nowL n r := nowL_mix (by omega)
    have h5 : ((nowL n r).take (min n r.length)).drop i = [] := List.drop_eq_nil_of_le (by simp; omega)
    rw [h4, h5]
    by_cases h2 : i < n
    · have h3 : ¬ i < r.length := by omega
      simp [-List.length_flatMap, -List.map_take, e_law11_LeaseAll_r0, e_law11_LeaseAll_r1, e_law11_LeaseAll_r2, e_law11_LeaseAll_r3, e_law11_LeaseAll_r4, e_law11_LeaseAll_r5, e_law11_LeaseAll_r6, e_law11_LeaseAll_r7, e_law11_LeaseAll_r8, e_law11_LeaseAll_r9, e_law11_LeaseAll_r10, e_law11_LeaseAll_r11, e_law11_LeaseAll_r12, e_law11_LeaseAll_r13, e_law11_LeaseAll_r14, e_law11_LeaseAll_r16, e_law11_LeaseAll_r17, e_law11_LeaseAll_r18, e_law11_LeaseAll_r19, e_law11_LeaseAll_r20, e_law11_LeaseAll_r21, e_law11_LeaseAll_r22, e_law11_LeaseAll_r23, e_law11_LeaseAll_r24, e_law11_LeaseAll_r26, e_law11_LeaseAll_r27, e_law11_LeaseAll_r28, e_law11_LeaseAll_r30, e_law11_LeaseAll_r31, e_law11_LeaseAll_r32, e_law11_LeaseAll_r33, e_law11_LeaseAll_r34, e_law11_LeaseAll_r35, e_law11_LeaseAll_r36, e_law11_LeaseAll_r37, e_law11_LeaseAll_r38, e_law11_LeaseAll_r39, e_law11_LeaseAll_r41, h2, h3, ht1, a1, s2, s5, s6, s7, s8, sumI]
    · simp [-List.length_flatMap, -List.map_take, e_law11_LeaseAll_r0, e_law11_LeaseAll_r1, e_law11_LeaseAll_r2, e_law11_LeaseAll_r3, e_law11_LeaseAll_r4, e_law11_LeaseAll_r5, e_law11_LeaseAll_r6, e_law11_LeaseAll_r7, e_law11_LeaseAll_r8, e_law11_LeaseAll_r9, e_law11_LeaseAll_r10, e_law11_LeaseAll_r11, e_law11_LeaseAll_r12, e_law11_LeaseAll_r13, e_law11_LeaseAll_r14, e_law11_LeaseAll_r16, e_law11_LeaseAll_r17, e_law11_LeaseAll_r18, e_law11_LeaseAll_r19, e_law11_LeaseAll_r20, e_law11_LeaseAll_r21, e_law11_LeaseAll_r22, e_law11_LeaseAll_r23, e_law11_LeaseAll_r24, e_law11_LeaseAll_r26, e_law11_LeaseAll_r27, e_law11_LeaseAll_r28, e_law11_LeaseAll_r30, e_law11_LeaseAll_r31, e_law11_LeaseAll_r32, e_law11_LeaseAll_r33, e_law11_LeaseAll_r34, e_law11_LeaseAll_r35, e_law11_LeaseAll_r36, e_law11_LeaseAll_r37, e_law11_LeaseAll_r38, e_law11_LeaseAll_r39, e_law11_LeaseAll_r41, h2, s2, s5, s6, s7, s8, sumI]
  | m + 1, i, ms, hi, h0, h1 => by
    refine WL_step e_law11_LeaseAll_l15 ?_
    have ht1 : t < ts.length := (List.getElem?_eq_some_iff.1 ht).1
    have a1 := rowU_at ht
    have h2 : i < n := by omega
    have h3 : i < r.length := by omega
    obtain ⟨x, hx⟩ : ∃ x, r[i]? = some x := ⟨_, List.getElem?_eq_getElem h3⟩
    have hxb := hr x (List.mem_of_getElem? hx)
    have a2 := u32_at hx
    have hL : (nowL n r).length = (zeroL n).length := by rw [nowL_len, zeroL_len]
    have hg := nowL_get h2 hx
    have a3 := mix_write hL hg
    have hmg : (mixI (nowL n r) (zeroL n) (i + 1))[i]? = some x := by
      unfold mixI
      rw [List.getElem?_append_left (by simp [nowL_len]; omega), List.getElem?_take_of_lt (by omega), hg]
    have a4 := flat_len (f := intE) (w := 1) (fun _ => rfl) (mixI (nowL n r) (zeroL n) i)
    rw [mix_len hL (by rw [nowL_len]; omega), zeroL_len, Nat.mul_one] at a4
    have a5 := flat_len (f := intE) (w := 1) (fun _ => rfl) (mixI (nowL n r) (zeroL n) (i + 1))
    rw [mix_len hL (by rw [nowL_len]; omega), zeroL_len, Nat.mul_one] at a5
    have a6 := int_at hmg
    have a7 : ((mixI (nowL n r) (zeroL n) (i + 1)).flatMap intE).drop i = .int .i64 x :: ((mixI (nowL n r) (zeroL n) (i + 1)).flatMap intE).drop (i + 1) := by
      have := k_drop (f := intE) (w := 1) (fun _ => rfl) hmg
      simpa using this
    have w1 := wnext h2 (by omega)
    have w2 := w64 (n := ms + x) (by omega)
    have w3 := w64 (n := x) (by omega)
    have ih := L_now ht hn hr s2 s5 s6 s7 s8 m (i + 1) (ms + x) (by omega) (by omega) (by omega)
    have h6 : i + 1 ≤ n := by omega
    have h7 : ((nowL n r).take (min n r.length)).drop i = x :: ((nowL n r).take (min n r.length)).drop (i + 1) := by
      refine dropS ?_
      rw [List.getElem?_take_of_lt (by omega), hg]
    rw [h7]
    simp [-List.length_flatMap, -List.map_take, e_law11_LeaseAll_r0, e_law11_LeaseAll_r1, e_law11_LeaseAll_r2, e_law11_LeaseAll_r3, e_law11_LeaseAll_r4, e_law11_LeaseAll_r5, e_law11_LeaseAll_r6, e_law11_LeaseAll_r7, e_law11_LeaseAll_r8, e_law11_LeaseAll_r9, e_law11_LeaseAll_r10, e_law11_LeaseAll_r11, e_law11_LeaseAll_r12, e_law11_LeaseAll_r13, e_law11_LeaseAll_r14, e_law11_LeaseAll_r16, e_law11_LeaseAll_r17, e_law11_LeaseAll_r18, e_law11_LeaseAll_r19, e_law11_LeaseAll_r20, e_law11_LeaseAll_r21, e_law11_LeaseAll_r22, e_law11_LeaseAll_r23, e_law11_LeaseAll_r24, e_law11_LeaseAll_r26, e_law11_LeaseAll_r27, e_law11_LeaseAll_r28, e_law11_LeaseAll_r30, e_law11_LeaseAll_r31, e_law11_LeaseAll_r32, e_law11_LeaseAll_r33, e_law11_LeaseAll_r34, e_law11_LeaseAll_r35, e_law11_LeaseAll_r36, e_law11_LeaseAll_r37, e_law11_LeaseAll_r38, e_law11_LeaseAll_r39, e_law11_LeaseAll_r41, h2, h3, ht1, a1, a2, a3, a4, a5, a6, a7, w1, w2, w3, h6, s2, s5, s6, s7, s8]
    refine WL.to ih (by simp) rfl fun x e σ hh => ?_
    simpa [sumI, Int.add_assoc] using hh
/-- What is got. -/
theorem L_got {g p : List Int} (hgl : g.length ≤ 1000) (hg : ∀ x ∈ g, 0 ≤ x ∧ x ≤ 1000000000000000) (hp : ∀ x ∈ p, 0 ≤ x ∧ x ≤ 1000000000000000) (hgp : p.length = g.length) {c : Cn} (hc : c.h = g.length) {d1 d5 d6 d8 d9 d10 d11 d14 : D} (s1 : d1.calm = d1) (s5 : d5.calm = d5) (s6 : d6.calm = d6) (s8 : d8.calm = d8) (s9 : d9.calm = d9) (s10 : d10.calm = d10) (s11 : d11.calm = d11) (s14 : d14.calm = d14) {S : List Blk} {B : Blk} : ∀ (m i : Nat), i + m = g.length →
    WL T [1, 2, 5, 6, 7, 8, 9, 10, 11, 13, 14, 16] false f_law11_LeaseAll_l25 [(1, d1), (2, cnC c), (5, d5), (6, d6), (7, .sl σ.length 1 0 0 g.length 1), (8, d8), (9, d9), (10, d10), (11, d11), (13, .lst p.length (p.flatMap intE)), (14, d14), (16, .int .i64 i)] (S :: [B, .cells 0 ((mixI (bothI g p) g i).flatMap intE)] :: σ)
      (fun x e σ' => x = .exit 4 ∧ get e 1 = d1 ∧ get e 2 = cnC c ∧ get e 5 = d5 ∧ get e 6 = d6 ∧ get e 7 = .sl σ.length 1 0 0 g.length 1 ∧ get e 8 = d8 ∧ get e 9 = d9 ∧ get e 10 = d10 ∧ get e 11 = d11 ∧ get e 14 = d14 ∧ σ' = S :: [B, .cells 0 ((bothI g p).flatMap intE)] :: σ)
  | 0, i, hi => by
    refine WL_step e_law11_LeaseAll_l25 ?_
    have h1 : ¬ (i : Int) < c.h := by omega
    have hL : (bothI g p).length = g.length := both_len (by omega)
    have h3 : mixI (bothI g p) g i = bothI g p := by rw [show i = (bothI g p).length by omega]; exact mix_all (by omega)
    simp [-List.length_flatMap, -List.map_take, e_law11_LeaseAll_r0, e_law11_LeaseAll_r1, e_law11_LeaseAll_r2, e_law11_LeaseAll_r3, e_law11_LeaseAll_r4, e_law11_LeaseAll_r5, e_law11_LeaseAll_r6, e_law11_LeaseAll_r7, e_law11_LeaseAll_r8, e_law11_LeaseAll_r9, e_law11_LeaseAll_r10, e_law11_LeaseAll_r11, e_law11_LeaseAll_r12, e_law11_LeaseAll_r13, e_law11_LeaseAll_r14, e_law11_LeaseAll_r16, e_law11_LeaseAll_r17, e_law11_LeaseAll_r18, e_law11_LeaseAll_r19, e_law11_LeaseAll_r20, e_law11_LeaseAll_r21, e_law11_LeaseAll_r22, e_law11_LeaseAll_r23, e_law11_LeaseAll_r24, e_law11_LeaseAll_r26, e_law11_LeaseAll_r27, e_law11_LeaseAll_r28, e_law11_LeaseAll_r30, e_law11_LeaseAll_r31, e_law11_LeaseAll_r32, e_law11_LeaseAll_r33, e_law11_LeaseAll_r34, e_law11_LeaseAll_r35, e_law11_LeaseAll_r36, e_law11_LeaseAll_r37, e_law11_LeaseAll_r38, e_law11_LeaseAll_r39, e_law11_LeaseAll_r41, h1, s1, s5, s6, s8, s9, s10, s11, s14, h3]
  | m + 1, i, hi => by
    refine WL_step e_law11_LeaseAll_l25 ?_
    have h1 : (i : Int) < c.h := by omega
    have h2 : i < g.length := by omega
    have h2' : i < p.length := by omega
    obtain ⟨x, hx⟩ : ∃ x, g[i]? = some x := ⟨_, List.getElem?_eq_getElem h2⟩
    obtain ⟨y, hy⟩ : ∃ x, p[i]? = some x := ⟨_, List.getElem?_eq_getElem h2'⟩
    have hxb := hg x (List.mem_of_getElem? hx)
    have hyb := hp y (List.mem_of_getElem? hy)
    have hy0 : ¬ y < 0 := by omega
    have hL : (bothI g p).length = g.length := both_len (by omega)
    have hmg : (mixI (bothI g p) g i)[i]? = some x := by rw [mix_get hL (by omega), hx]
    have a1 := int_at hmg
    have a2 := int_at hy
    have a3 := mix_write hL (both_get hx hy)
    have a4 := flat_len (f := intE) (w := 1) (fun _ => rfl) (mixI (bothI g p) g i)
    rw [mix_len hL (by omega), Nat.mul_one] at a4
    have a5 : ((mixI (bothI g p) g i).flatMap intE).drop i = .int .i64 x :: ((mixI (bothI g p) g i).flatMap intE).drop (i + 1) := by
      have := k_drop (f := intE) (w := 1) (fun _ => rfl) hmg
      simpa using this
    have w1 := w64 (n := (i : Int) + 1) (by omega)
    have w2 := w64 (n := x + y) (by omega)
    have ih := L_got hgl hg hp hgp hc s1 s5 s6 s8 s9 s10 s11 s14 (S := S) (B := B) m (i + 1) (by omega)
    have h6 : i + 1 ≤ g.length := by omega
    simp [-List.length_flatMap, -List.map_take, e_law11_LeaseAll_r0, e_law11_LeaseAll_r1, e_law11_LeaseAll_r2, e_law11_LeaseAll_r3, e_law11_LeaseAll_r4, e_law11_LeaseAll_r5, e_law11_LeaseAll_r6, e_law11_LeaseAll_r7, e_law11_LeaseAll_r8, e_law11_LeaseAll_r9, e_law11_LeaseAll_r10, e_law11_LeaseAll_r11, e_law11_LeaseAll_r12, e_law11_LeaseAll_r13, e_law11_LeaseAll_r14, e_law11_LeaseAll_r16, e_law11_LeaseAll_r17, e_law11_LeaseAll_r18, e_law11_LeaseAll_r19, e_law11_LeaseAll_r20, e_law11_LeaseAll_r21, e_law11_LeaseAll_r22, e_law11_LeaseAll_r23, e_law11_LeaseAll_r24, e_law11_LeaseAll_r26, e_law11_LeaseAll_r27, e_law11_LeaseAll_r28, e_law11_LeaseAll_r30, e_law11_LeaseAll_r31, e_law11_LeaseAll_r32, e_law11_LeaseAll_r33, e_law11_LeaseAll_r34, e_law11_LeaseAll_r35, e_law11_LeaseAll_r36, e_law11_LeaseAll_r37, e_law11_LeaseAll_r38, e_law11_LeaseAll_r39, e_law11_LeaseAll_r41, h1, h2, h2', a1, a2, a3, a4, a5, w1, w2, h6, hy0, s1, s5, s6, s8, s9, s10, s11, s14]
    exact WL.to ih (by simp) rfl fun x e σ hh => hh
/-- The sum at the end. -/
theorem L_end {q : List Int} (hq : ∀ x ∈ q, 0 ≤ x ∧ x ≤ 1000000000000000) (hl : q.length ≤ 1000) {c : Cn} (hc : c.h = q.length) {d7 d8 d9 d18 : D} (s7 : d7.calm = d7) (s8 : d8.calm = d8) (s9 : d9.calm = d9) (s18 : d18.calm = d18) : ∀ (m i : Nat) (n : Int), i + m = q.length → 0 ≤ n → n ≤ 1000000000000000 * (1000 + i) →
    WL T [2, 7, 8, 9, 17, 18, 20, 21] false f_law11_LeaseAll_l40 [(2, cnC c), (7, d7), (8, d8), (9, d9), (17, .lst q.length (q.flatMap intE)), (18, d18), (20, .int .i64 n), (21, .int .i64 i)] σ
      (fun x e σ' => x = .exit 6 ∧ get e 7 = d7 ∧ get e 8 = d8 ∧ get e 9 = d9 ∧ get e 17 = .lst q.length (q.flatMap intE) ∧ get e 18 = d18 ∧ get e 20 = .int .i64 (n + sumI (q.drop i)) ∧ σ' = σ)
  | 0, i, n, hi, h0, hn => by
    refine WL_step e_law11_LeaseAll_l40 ?_
    have h1 : ¬ (i : Int) < c.h := by omega
    have h2 : q.drop i = [] := List.drop_eq_nil_of_le (by omega)
    rw [h2]
    simp [-List.length_flatMap, -List.map_take, e_law11_LeaseAll_r0, e_law11_LeaseAll_r1, e_law11_LeaseAll_r2, e_law11_LeaseAll_r3, e_law11_LeaseAll_r4, e_law11_LeaseAll_r5, e_law11_LeaseAll_r6, e_law11_LeaseAll_r7, e_law11_LeaseAll_r8, e_law11_LeaseAll_r9, e_law11_LeaseAll_r10, e_law11_LeaseAll_r11, e_law11_LeaseAll_r12, e_law11_LeaseAll_r13, e_law11_LeaseAll_r14, e_law11_LeaseAll_r16, e_law11_LeaseAll_r17, e_law11_LeaseAll_r18, e_law11_LeaseAll_r19, e_law11_LeaseAll_r20, e_law11_LeaseAll_r21, e_law11_LeaseAll_r22, e_law11_LeaseAll_r23, e_law11_LeaseAll_r24, e_law11_LeaseAll_r26, e_law11_LeaseAll_r27, e_law11_LeaseAll_r28, e_law11_LeaseAll_r30, e_law11_LeaseAll_r31, e_law11_LeaseAll_r32, e_law11_LeaseAll_r33, e_law11_LeaseAll_r34, e_law11_LeaseAll_r35, e_law11_LeaseAll_r36, e_law11_LeaseAll_r37, e_law11_LeaseAll_r38, e_law11_LeaseAll_r39, e_law11_LeaseAll_r41, h1, sumI, s7, s8, s9, s18]
  | m + 1, i, n, hi, h0, hn => by
    refine WL_step e_law11_LeaseAll_l40 ?_
    have h1 : (i : Int) < c.h := by omega
    have h2 : i < q.length := by omega
    obtain ⟨x, hx⟩ : ∃ x, q[i]? = some x := ⟨_, List.getElem?_eq_getElem h2⟩
    have hxb := hq x (List.mem_of_getElem? hx)
    have hx0 : ¬ x < 0 := by omega
    have a1 := int_at hx
    have w1 := w64 (n := (i : Int) + 1) (by omega)
    have w2 := w64 (n := n + x) (by omega)
    have ih := L_end hq hl hc s7 s8 s9 s18 m (i + 1) (n + x) (by omega) (by omega) (by omega)
    rw [dropS hx]
    simp [-List.length_flatMap, -List.map_take, e_law11_LeaseAll_r0, e_law11_LeaseAll_r1, e_law11_LeaseAll_r2, e_law11_LeaseAll_r3, e_law11_LeaseAll_r4, e_law11_LeaseAll_r5, e_law11_LeaseAll_r6, e_law11_LeaseAll_r7, e_law11_LeaseAll_r8, e_law11_LeaseAll_r9, e_law11_LeaseAll_r10, e_law11_LeaseAll_r11, e_law11_LeaseAll_r12, e_law11_LeaseAll_r13, e_law11_LeaseAll_r14, e_law11_LeaseAll_r16, e_law11_LeaseAll_r17, e_law11_LeaseAll_r18, e_law11_LeaseAll_r19, e_law11_LeaseAll_r20, e_law11_LeaseAll_r21, e_law11_LeaseAll_r22, e_law11_LeaseAll_r23, e_law11_LeaseAll_r24, e_law11_LeaseAll_r26, e_law11_LeaseAll_r27, e_law11_LeaseAll_r28, e_law11_LeaseAll_r30, e_law11_LeaseAll_r31, e_law11_LeaseAll_r32, e_law11_LeaseAll_r33, e_law11_LeaseAll_r34, e_law11_LeaseAll_r35, e_law11_LeaseAll_r36, e_law11_LeaseAll_r37, e_law11_LeaseAll_r38, e_law11_LeaseAll_r39, e_law11_LeaseAll_r41, h1, h2, a1, w1, w2, hx0, s7, s8, s9, s18]
    refine WL.to ih (by simp) rfl fun x e σ hh => ?_
    simpa [sumI, Int.add_assoc] using hh
/-- Tick by tick. -/
theorem L_ticks {c : Cn} (hc : Few c) (c1 : cnOk c = true) {ts : List (List Int)} (hts : ts.length ≤ 30) (hu : ∀ r ∈ ts, ∀ x ∈ r, 0 ≤ x ∧ x ≤ 4294967295) : ∀ (m t : Nat) (b : List Int), t + m = ts.length → b.length = c.l.length → (∀ x ∈ b, 0 ≤ x ∧ x ≤ 4294967295 * t) →
    WL T [1, 2, 5, 6, 7, 8, 9, 10] true f_law11_LeaseAll_l29 [(1, .lst ts.length (ts.flatMap rowU)), (2, cnC c), (5, cnO c), (6, .lst b.length (b.flatMap intE)), (7, .sl (σ.length + 1) 1 0 0 (dueL c b).length 1), (8, .int .i64 (dueR c b)), (9, .int .i64 (sumI b)), (10, .int .i64 t)] ([.dead, .cells 0 ((dueL c b).flatMap intE)] :: [] :: σ)
      (fun x e σ' => ∃ b' : List Int, x = .exit 0 ∧ b'.length = c.l.length ∧ (∀ x ∈ b', 0 ≤ x ∧ x ≤ 4294967295 * (30 : Int)) ∧ get e 2 = cnC c ∧ get e 5 = cnO c ∧ get e 6 = .lst b'.length (b'.flatMap intE) ∧ get e 7 = .sl (σ.length + 1) 1 0 0 (dueL c b').length 1 ∧ get e 8 = .int .i64 (dueR c b') ∧ get e 9 = .int .i64 (sumI b') ∧ σ' = [.dead, .cells 0 ((dueL c b').flatMap intE)] :: [] :: σ)
  | 0, t, b, ht, hb, hbd => by
    refine WL_stepS e_law11_LeaseAll_l29 ?_
    have h1 : ¬ t < ts.length := by omega
    simp [-List.length_flatMap, -List.map_take, e_law11_LeaseAll_r0, e_law11_LeaseAll_r1, e_law11_LeaseAll_r2, e_law11_LeaseAll_r3, e_law11_LeaseAll_r4, e_law11_LeaseAll_r5, e_law11_LeaseAll_r6, e_law11_LeaseAll_r7, e_law11_LeaseAll_r8, e_law11_LeaseAll_r9, e_law11_LeaseAll_r10, e_law11_LeaseAll_r11, e_law11_LeaseAll_r12, e_law11_LeaseAll_r13, e_law11_LeaseAll_r14, e_law11_LeaseAll_r16, e_law11_LeaseAll_r17, e_law11_LeaseAll_r18, e_law11_LeaseAll_r19, e_law11_LeaseAll_r20, e_law11_LeaseAll_r21, e_law11_LeaseAll_r22, e_law11_LeaseAll_r23, e_law11_LeaseAll_r24, e_law11_LeaseAll_r26, e_law11_LeaseAll_r27, e_law11_LeaseAll_r28, e_law11_LeaseAll_r30, e_law11_LeaseAll_r31, e_law11_LeaseAll_r32, e_law11_LeaseAll_r33, e_law11_LeaseAll_r34, e_law11_LeaseAll_r35, e_law11_LeaseAll_r36, e_law11_LeaseAll_r37, e_law11_LeaseAll_r38, e_law11_LeaseAll_r39, e_law11_LeaseAll_r41, h1]
    exact ⟨b, hb, fun x hx => by have := hbd x hx; omega, by simp⟩
  | m + 1, t, b, ht, hb, hbd => by
    refine WL_stepS e_law11_LeaseAll_l29 ?_
    have h1 : t < ts.length := by omega
    obtain ⟨r, hr⟩ : ∃ x, ts[t]? = some x := ⟨_, List.getElem?_eq_getElem h1⟩
    have hrb := hu r (List.mem_of_getElem? hr)
    have hc1 := cnOk_iff.1 c1
    have hn : c.l.length ≤ 1000 := by omega
    have hroom : (c.l.length : Int) * 8 ≤ (room : Int) := by unfold room; omega
    have hb0 : ∀ x ∈ b, 0 ≤ x ∧ x ≤ 1000000000000 := fun x hx => by have := hbd x hx; omega
    have hsb := sumI_bd (lo := 0) (hi := 1000000000000) hb0
    have hz := mk_zero c.l.length
    simp [-List.length_flatMap, -List.map_take, e_law11_LeaseAll_r0, e_law11_LeaseAll_r1, e_law11_LeaseAll_r2, e_law11_LeaseAll_r3, e_law11_LeaseAll_r4, e_law11_LeaseAll_r5, e_law11_LeaseAll_r6, e_law11_LeaseAll_r7, e_law11_LeaseAll_r8, e_law11_LeaseAll_r9, e_law11_LeaseAll_r10, e_law11_LeaseAll_r11, e_law11_LeaseAll_r12, e_law11_LeaseAll_r13, e_law11_LeaseAll_r14, e_law11_LeaseAll_r16, e_law11_LeaseAll_r17, e_law11_LeaseAll_r18, e_law11_LeaseAll_r19, e_law11_LeaseAll_r20, e_law11_LeaseAll_r21, e_law11_LeaseAll_r22, e_law11_LeaseAll_r23, e_law11_LeaseAll_r24, e_law11_LeaseAll_r26, e_law11_LeaseAll_r27, e_law11_LeaseAll_r28, e_law11_LeaseAll_r30, e_law11_LeaseAll_r31, e_law11_LeaseAll_r32, e_law11_LeaseAll_r33, e_law11_LeaseAll_r34, e_law11_LeaseAll_r35, e_law11_LeaseAll_r36, e_law11_LeaseAll_r37, e_law11_LeaseAll_r38, e_law11_LeaseAll_r39, e_law11_LeaseAll_r41, h1, hroom, hz]
    refine WL.to (L_now (σ := [.dead, .cells 0 ((dueL c b).flatMap intE)] :: [] :: σ) hr (n := c.l.length) hn hrb (d2 := cnC c) (d5 := cnO c) (d6 := .lst b.length (b.flatMap intE)) (d7 := .sl (σ.length + 1) 1 0 0 (dueL c b).length 1) (d8 := .int .i64 (dueR c b)) rfl rfl rfl rfl rfl (min c.l.length r.length) 0 (sumI b) (by omega) (by omega) (by omega)) (by simp) (by simp [mix_zero]) ?_
    rintro x e σ' ⟨rfl, g1, g2, g5, g6, g7, g8, g9, g10, g11, rfl⟩
    rw [List.drop_zero, nowL_sum rfl] at g9
    obtain ⟨w, hw⟩ : ∃ w, nowL c.l.length r = w := ⟨_, rfl⟩
    have hwl : w.length = c.l.length := by rw [← hw, nowL_len]
    have hwb : ∀ x ∈ w, 0 ≤ x ∧ x ≤ 4294967295 := by rw [← hw]; exact nowL_bd (by decide) hrb
    rw [hw] at g9 ⊢
    have k1 : massOk c b = true := massOk_iff.2 ⟨hb, hb0⟩
    have k2 : massOk c w = true := massOk_iff.2 ⟨hwl, fun x hx => by have := hwb x hx; omega⟩
    have hBl : (bothI b w).length = b.length := both_len (by omega)
    have hBb := both_bd hbd hwb
    have k3 : massOk c (bothI b w) = true := massOk_iff.2 ⟨by omega, fun x hx => by have := hBb x hx; omega⟩
    have hfz := k_frz (f := intE) (w := 1) (fun _ => rfl) (fun x => by simp) (l := w) (j := 0) (v := 0) (bs := [.cells 0 (w.flatMap intE)]) (σ := [.dead, .cells 0 ((dueL c b).flatMap intE)] :: [] :: σ) (by simp) rfl
    simp only [List.length_cons, hwl] at hfz
    have hlb := fun σ (hσ : σ ≠ []) => C_list (σ := σ) (l := b) (by omega) hσ
    have hlw := fun σ (hσ : σ ≠ []) => C_list (σ := σ) (l := w) (by omega) hσ
    have hV := fun σ (hσ : σ ≠ []) => C_Divide (σ := σ) hc (bf := b) (nw := w) (by omega) (by omega) hσ
    unfold div3 at hV
    simp only [c1, k1, k2, k3, Bool.and_self, if_true, cnD, hwl] at hV
    rw [hwl] at hlw
    have d1 := dueL_len (c := c) (ms := b)
    have d2 := dueL_len (c := c) (ms := w)
    have d3 := dueL_len (c := c) (ms := bothI b w)
    have hpl : (subI (dueL c (bothI b w)) (dueL c b)).length = (dueL c w).length := by rw [sub_len (by omega)]; omega
    have hp0 := parts_nonneg c1 k1 k2
    have hp1 : ∀ x ∈ subI (dueL c (bothI b w)) (dueL c b), 0 ≤ x ∧ x ≤ 1000000000000000 := fun x hx => by
      refine ⟨hp0 x hx, ?_⟩
      obtain ⟨i, hi⟩ := List.getElem?_of_mem hx
      have q1 := dueL_bd c1 k3
      have q2 := dueL_bd c1 k1
      simp only [subI, List.getElem?_zipWith] at hi
      cases hA : (dueL c (bothI b w))[i]? with
      | none => simp [hA] at hi
      | some A =>
        cases hB : (dueL c b)[i]? with
        | none => simp [hA, hB] at hi
        | some B =>
          simp [hA, hB] at hi
          have := q1 A (List.mem_of_getElem? hA)
          have := q2 B (List.mem_of_getElem? hB)
          omega
    have hge := left_ge c1 k1 k2
    have hge' : ¬ dueR c (bothI b w) - dueR c b < -c.h := by omega
    have wn := w64 (n := -c.h) (by omega)
    have wn2 := w64 (n := 0 - c.h) (by omega)
    have hlen : ((dueL c w).length : Int) = c.h := by omega
    have hB := fun σ (hσ : σ ≠ []) => C_Both (σ := σ) (a := b) (b := w) (by omega) (by omega) (fun x hx => by have := hb0 x hx; omega) (fun x hx => by have := hwb x hx; omega) hσ
    rw [hwl, hBl] at hB
    simp [-List.length_flatMap, -List.map_take, e_law11_LeaseAll_r16, e_law11_LeaseAll_r17, e_law11_LeaseAll_r19, g1, g2, g5, g6, g7, g8, g9, g10, g11, hfz, hlb, hlw, hV, hge', wn, wn2, hlen]
    have hg0 := dueL_bd c1 k1
    refine WL.to (L_got (σ := [] :: σ) (g := dueL c b) (p := subI (dueL c (bothI b w)) (dueL c b)) (by omega) (fun x hx => by have := hg0 x hx; omega) (fun x hx => by have := hp1 x hx; omega) (by omega) (c := c) (by omega) (d1 := .lst ts.length (ts.flatMap rowU)) (d5 := cnO c) (d6 := .lst b.length (b.flatMap intE)) (d8 := .int .i64 (dueR c b)) (d9 := .int .i64 (sumI b + sumI w)) (d10 := .int .i64 t) (d11 := .lst c.l.length (w.flatMap intE)) (d14 := .int .i64 (dueR c (bothI b w) - dueR c b)) rfl rfl rfl rfl rfl rfl rfl rfl (S := [.dead]) (B := .dead) (dueL c b).length 0 (by omega)) (by simp [hpl]) (by simp [mix_zero]) ?_
    rintro x e σ' ⟨rfl, g1, g2, g5, g6, g7, g8, g9, g10, g11, g14, rfl⟩
    have hsp : bothI (dueL c b) (subI (dueL c (bothI b w)) (dueL c b)) = dueL c (bothI b w) := sum_parts (by omega)
    rw [hsp]
    have hq : ∀ ms, massOk c ms = true → 0 ≤ dueR c ms ∧ dueR c ms ≤ 20000000000000 := fun ms hm => by
      have q1 := dueR_nonneg c1 hm
      have q2 := massOk_iff.1 hm
      have q3 := sumI_bd (lo := 0) (hi := 1000000000000) q2.2
      have q4 := sumI_bd (lo := 0) (hi := 20000020000000) (dueL_bd c1 hm)
      unfold dueR at q1 ⊢
      omega
    have q1 := hq _ k1
    have q3 := hq _ k3
    have w5 := w64 (n := dueR c (bothI b w)) (by omega)
    have w6 : dueR c b + (dueR c (bothI b w) - dueR c b) = dueR c (bothI b w) := by omega
    have w7 := wnext h1 (by omega)
    have hsum := sum_both b w (by omega)
    have hlen2 : (dueL c b).length = (dueL c (bothI b w)).length := by omega
    have ih := L_ticks hc c1 hts hu m (t + 1) (bothI b w) (by omega) (by omega) (fun x hx => by have := hBb x hx; omega)
    simp [-List.length_flatMap, -List.map_take, e_law11_LeaseAll_r26, e_law11_LeaseAll_r27, e_law11_LeaseAll_r28, g1, g2, g5, g6, g7, g8, g9, g10, g11, g14, w5, w6, w7, hB]
    refine WL.to ih (by simp [hsum, hlen2, hBl]) rfl fun x e σ hh => ?_
    simpa using hh
theorem law_All {c : Cn} (hcl : c.l.length ≤ 9223372036854775807) {ts : List (List Int)} (hu : ∀ r ∈ ts, ∀ x ∈ r, 0 ≤ x ∧ x ≤ 4294967295) : lim T (.call false i_law11_LeaseAll [cnD c, .lst ts.length (ts.flatMap rowU)] [[]]) = some (.val (.bool true) [[]]) := by
  refine call_of T_law11_LeaseAll e_law11_LeaseAll rfl ?_
  have hF := fun σ => C_few (σ := σ) hcl
  simp only [cnD] at hF
  cases f1 : fewB c
  · simp [-List.length_flatMap, -List.map_take, e_law11_LeaseAll_r0, e_law11_LeaseAll_r1, e_law11_LeaseAll_r2, e_law11_LeaseAll_r3, e_law11_LeaseAll_r4, e_law11_LeaseAll_r5, e_law11_LeaseAll_r6, e_law11_LeaseAll_r7, e_law11_LeaseAll_r8, e_law11_LeaseAll_r9, e_law11_LeaseAll_r10, e_law11_LeaseAll_r11, e_law11_LeaseAll_r12, e_law11_LeaseAll_r13, e_law11_LeaseAll_r14, e_law11_LeaseAll_r16, e_law11_LeaseAll_r17, e_law11_LeaseAll_r18, e_law11_LeaseAll_r19, e_law11_LeaseAll_r20, e_law11_LeaseAll_r21, e_law11_LeaseAll_r22, e_law11_LeaseAll_r23, e_law11_LeaseAll_r24, e_law11_LeaseAll_r26, e_law11_LeaseAll_r27, e_law11_LeaseAll_r28, e_law11_LeaseAll_r30, e_law11_LeaseAll_r31, e_law11_LeaseAll_r32, e_law11_LeaseAll_r33, e_law11_LeaseAll_r34, e_law11_LeaseAll_r35, e_law11_LeaseAll_r36, e_law11_LeaseAll_r37, e_law11_LeaseAll_r38, e_law11_LeaseAll_r39, e_law11_LeaseAll_r41, hF, f1, C_wakes]
  have hc := fewB_iff.1 f1
  have hR := fun σ => C_Right (σ := σ) hc
  simp only [cnD] at hR
  cases c1 : cnOk c
  · simp [-List.length_flatMap, -List.map_take, e_law11_LeaseAll_r0, e_law11_LeaseAll_r1, e_law11_LeaseAll_r2, e_law11_LeaseAll_r3, e_law11_LeaseAll_r4, e_law11_LeaseAll_r5, e_law11_LeaseAll_r6, e_law11_LeaseAll_r7, e_law11_LeaseAll_r8, e_law11_LeaseAll_r9, e_law11_LeaseAll_r10, e_law11_LeaseAll_r11, e_law11_LeaseAll_r12, e_law11_LeaseAll_r13, e_law11_LeaseAll_r14, e_law11_LeaseAll_r16, e_law11_LeaseAll_r17, e_law11_LeaseAll_r18, e_law11_LeaseAll_r19, e_law11_LeaseAll_r20, e_law11_LeaseAll_r21, e_law11_LeaseAll_r22, e_law11_LeaseAll_r23, e_law11_LeaseAll_r24, e_law11_LeaseAll_r26, e_law11_LeaseAll_r27, e_law11_LeaseAll_r28, e_law11_LeaseAll_r30, e_law11_LeaseAll_r31, e_law11_LeaseAll_r32, e_law11_LeaseAll_r33, e_law11_LeaseAll_r34, e_law11_LeaseAll_r35, e_law11_LeaseAll_r36, e_law11_LeaseAll_r37, e_law11_LeaseAll_r38, e_law11_LeaseAll_r39, e_law11_LeaseAll_r41, hF, f1, hR, c1, C_wakes]
  by_cases hn : ts.length ≤ 30
  rotate_left
  · have h1 : (30 : Int) < ts.length := by omega
    simp [-List.length_flatMap, -List.map_take, e_law11_LeaseAll_r0, e_law11_LeaseAll_r1, e_law11_LeaseAll_r2, e_law11_LeaseAll_r3, e_law11_LeaseAll_r4, e_law11_LeaseAll_r5, e_law11_LeaseAll_r6, e_law11_LeaseAll_r7, e_law11_LeaseAll_r8, e_law11_LeaseAll_r9, e_law11_LeaseAll_r10, e_law11_LeaseAll_r11, e_law11_LeaseAll_r12, e_law11_LeaseAll_r13, e_law11_LeaseAll_r14, e_law11_LeaseAll_r16, e_law11_LeaseAll_r17, e_law11_LeaseAll_r18, e_law11_LeaseAll_r19, e_law11_LeaseAll_r20, e_law11_LeaseAll_r21, e_law11_LeaseAll_r22, e_law11_LeaseAll_r23, e_law11_LeaseAll_r24, e_law11_LeaseAll_r26, e_law11_LeaseAll_r27, e_law11_LeaseAll_r28, e_law11_LeaseAll_r30, e_law11_LeaseAll_r31, e_law11_LeaseAll_r32, e_law11_LeaseAll_r33, e_law11_LeaseAll_r34, e_law11_LeaseAll_r35, e_law11_LeaseAll_r36, e_law11_LeaseAll_r37, e_law11_LeaseAll_r38, e_law11_LeaseAll_r39, e_law11_LeaseAll_r41, hF, f1, hR, c1, h1, C_wakes]
  have hn1 : ¬ (30 : Int) < ts.length := by omega
  have hC := fun σ (hσ : σ ≠ []) => C_Conc (σ := σ) hc hσ
  simp only [cnD] at hC
  have hc1 := cnOk_iff.1 c1
  have r1 : (c.l.length : Int) * 8 ≤ (room : Int) := by unfold room; omega
  have r2 : c.h * 8 ≤ (room : Int) := by unfold room; omega
  have r3 : 0 ≤ c.h := by omega
  have z1 := mk_zero c.l.length
  have z2 := mk_zero c.h.toNat
  have hz := k_frz (f := intE) (w := 1) (fun _ => rfl) (fun x => by simp) (l := zeroL c.l.length) (j := 0) (v := 0) (bs := [.cells 0 ((zeroL c.l.length).flatMap intE)]) (σ := [[]]) (by simp) rfl
  simp only [List.length_cons, List.length_nil, zeroL_len, Nat.zero_add] at hz
  simp [-List.length_flatMap, -List.map_take, e_law11_LeaseAll_r0, e_law11_LeaseAll_r1, e_law11_LeaseAll_r2, e_law11_LeaseAll_r3, e_law11_LeaseAll_r4, e_law11_LeaseAll_r5, e_law11_LeaseAll_r6, e_law11_LeaseAll_r7, e_law11_LeaseAll_r8, e_law11_LeaseAll_r9, e_law11_LeaseAll_r10, e_law11_LeaseAll_r11, e_law11_LeaseAll_r12, e_law11_LeaseAll_r13, e_law11_LeaseAll_r14, e_law11_LeaseAll_r16, e_law11_LeaseAll_r17, e_law11_LeaseAll_r18, e_law11_LeaseAll_r19, e_law11_LeaseAll_r20, e_law11_LeaseAll_r21, e_law11_LeaseAll_r22, e_law11_LeaseAll_r23, e_law11_LeaseAll_r24, e_law11_LeaseAll_r26, e_law11_LeaseAll_r27, e_law11_LeaseAll_r28, e_law11_LeaseAll_r30, e_law11_LeaseAll_r31, e_law11_LeaseAll_r32, e_law11_LeaseAll_r33, e_law11_LeaseAll_r34, e_law11_LeaseAll_r35, e_law11_LeaseAll_r36, e_law11_LeaseAll_r37, e_law11_LeaseAll_r38, e_law11_LeaseAll_r39, e_law11_LeaseAll_r41, hF, f1, hR, c1, hn1, hC, r1, r2, r3, z1, z2, hz]
  have hdl : (dueL c (zeroL c.l.length)).length = c.h.toNat := dueL_len
  refine WL.to (L_ticks (σ := []) hc c1 hn hu ts.length 0 (zeroL c.l.length) (by omega) zeroL_len (fun x hx => by simp [zeroL] at hx; omega)) (by simp [dueL_zero, dueR_zero, sum_zero, zeroL_len]) (by simp [dueL_zero]) ?_
  rintro x e σ' ⟨b, rfl, hb, hbd, g2, g5, g6, g7, g8, g9, rfl⟩
  have hb0 : ∀ x ∈ b, 0 ≤ x ∧ x ≤ 1000000000000 := fun x hx => by have := hbd x hx; omega
  have k1 : massOk c b = true := massOk_iff.2 ⟨hb, hb0⟩
  have hfz := k_frz (f := intE) (w := 1) (fun _ => rfl) (fun x => by simp) (l := dueL c b) (j := 1) (v := 0) (bs := [.dead, .cells 0 ((dueL c b).flatMap intE)]) (σ := [[]]) (by simp) rfl
  simp only [List.length_cons, List.length_nil, Nat.zero_add] at hfz
  have hD := fun σ (hσ : σ ≠ []) => C_Due (σ := σ) hc (ms := b) (by omega) hσ
  unfold due3 at hD
  simp only [c1, k1, if_true, cnD] at hD
  have d1 := dueL_len (c := c) (ms := b)
  have hlen : ((dueL c b).length : Int) = c.h := by omega
  have q0 := dueR_nonneg c1 k1
  have q0' : ¬ dueR c b < 0 := by omega
  have q2 := massOk_iff.1 k1
  have q3 := sumI_bd (lo := 0) (hi := 1000000000000) q2.2
  have q4 := sumI_bd (lo := 0) (hi := 20000020000000) (dueL_bd c1 k1)
  have q5 : dueR c b ≤ 20000000000000 := by unfold dueR; omega
  have q6 := dueL_bd c1 k1
  simp [-List.length_flatMap, -List.map_take, e_law11_LeaseAll_r30, e_law11_LeaseAll_r31, e_law11_LeaseAll_r33, e_law11_LeaseAll_r34, g2, g5, g6, g7, g8, g9, hfz, hD, hlen, q0']
  refine WL.to (L_end (σ := [[.dead, .dead], []]) (q := dueL c b) (fun x hx => by have := q6 x hx; omega) (by omega) (c := c) (by omega) (d7 := .lst (dueL c b).length ((dueL c b).flatMap intE)) (d8 := .int .i64 (dueR c b)) (d9 := .int .i64 (sumI b)) (d18 := .int .i64 (dueR c b)) rfl rfl rfl rfl (dueL c b).length 0 (dueR c b) (by omega) q0 (by omega)) (by simp) (by simp) ?_
  rintro x e σ' ⟨rfl, g7, g8, g9, g17, g18, g20, rfl⟩
  rw [List.drop_zero] at g20
  have hI := fun σ => C_ints (σ := σ) (a := dueL c b) (b := dueL c b) (by omega)
  have hs : dueR c b + sumI (dueL c b) = sumI b := by unfold dueR; omega
  simp [-List.length_flatMap, -List.map_take, e_law11_LeaseAll_r41, g7, g8, g9, g17, g18, g20, hI, hs, C_wakesDD]
theorem rows_i64 {ds : List D} (h : (Ty.int .i64).has ds) : ∃ x : Int, ds = intE x ∧ (-9223372036854775808 ≤ x ∧ x ≤ 9223372036854775807) := by
  obtain ⟨n, rfl, hw⟩ := h
  exact ⟨n, rfl, wf_i64 hw⟩
theorem row_i64 {ds : List D} (h : (Ty.slice 1 (.int .i64)).has ds) : ∃ r : List Int, ds = rowE r ∧ True := by
  obtain ⟨d, rfl⟩ := slice_one h
  obtain ⟨l, rfl, _, _⟩ := rows_of (fun ds h => rows_i64 h) h
  exact ⟨l, rfl, trivial⟩
theorem cn_of {d : D} (h : (Ty.struct [.int .i64, .slice 1 (.slice 1 (.int .i64))]).hasV d) : ∃ c : Cn, d = cnD c ∧ c.l.length ≤ maxLen := by
  obtain ⟨ds, rfl, h⟩ := h
  obtain ⟨_, _, rfl, ⟨w, rfl, _⟩, _, _, rfl, hs, rfl⟩ := h
  obtain ⟨d, rfl⟩ := slice_one hs
  obtain ⟨l, rfl, hl, _⟩ := rows_of (fun ds h => row_i64 h) hs
  exact ⟨⟨w, l⟩, rfl, hl⟩
theorem rows_u32 {ds : List D} (h : (Ty.int .u32).has ds) : ∃ x : Int, ds = u32E x ∧ (0 ≤ x ∧ x ≤ 4294967295) := by
  obtain ⟨n, rfl, hw⟩ := h
  exact ⟨n, rfl, wf_u32 hw⟩
theorem row_u32 {ds : List D} (h : (Ty.slice 1 (.int .u32)).has ds) : ∃ r : List Int, ds = rowU r ∧ ∀ x ∈ r, 0 ≤ x ∧ x ≤ 4294967295 := by
  obtain ⟨d, rfl⟩ := slice_one h
  obtain ⟨l, rfl, _, hx⟩ := rows_of (fun ds h => rows_u32 h) h
  exact ⟨l, rfl, hx⟩
theorem go_LeaseAll (x0 x1 : D) (t0 : (Ty.struct [.int .i64, .slice 1 (.slice 1 (.int .i64))]).hasV x0) (t1 : (Ty.slice 1 (.slice 1 (.int .u32))).hasV x1) :
    ∃ σ', lim T (.call false i_law11_LeaseAll [x0, x1] [[]]) = some (.val (.bool true) σ') := by
  obtain ⟨c, rfl, hc⟩ := cn_of t0
  obtain ⟨ts, rfl, _, hb⟩ := rows_of (fun ds h => row_u32 h) t1
  exact ⟨_, law_All (by unfold maxLen at hc; omega) hb⟩
end Go.Proofs.Ytcccafphhmcifaa
