/-
  Springs of layer 11: the room; the law's copies; the document's words.
-/
import Derived.Test.YtcccafphhmcifaaG2
set_option linter.unusedVariables false
set_option linter.unusedSimpArgs false
namespace Go.Proofs.Ytcccafphhmcifaa
open Go Go.Abs Go.Lease
variable {σ : Stack}

theorem rgD_of {l : List Rg} {i : Nat} {r : Rg} (h : l[i]? = some r) : l.getD i ⟨0, 0⟩ = r := by rw [List.getD_eq_getElem?_getD, h]; rfl
theorem any_cons' {α : Type} {p : α → Bool} {x : α} {l : List α} : anyB (x :: l) p = (p x || anyB l p) := rfl
theorem L_Room {l : List Sp} (h1 : spsOk l = true) {ts : List Int} (h2 : tkOk l ts = true) {k : Nat} (hk : k < ts.length) : ∀ (m j : Nat) (a : Int), j + m = l.length → 0 ≤ a → a ≤ 1000000 →
    WL T [1, 2, 9, 31, 32, 33] false f_lease_Room_l17 [(1, .lst ts.length (ts.flatMap intE)), (2, .int .i64 k), (9, .int .i64 a), (31, spsD l), (32, .int .i64 l.length), (33, .int .i64 j)] σ
      (fun x e σ' => σ' = σ ∧ if anyB (l.drop j) (harmP ts) then x = .ret ∧ get e 6 = .int .i64 0 ∧ get e 7 = .int .i64 9 else x = .exit 0 ∧ get e 9 = .int .i64 (roomF ts k (l.drop j) a))
  | 0, j, a, hi, _, _ => by
    refine WL_step e_lease_Room_l17 ?_
    have g1 : ¬ j < l.length := by omega
    have g2 : l.drop j = [] := List.drop_eq_nil_of_le (by omega)
    rw [g2]
    simp [-List.length_flatMap, -List.map_take, e_lease_Room_r0, e_lease_Room_r1, e_lease_Room_r2, e_lease_Room_r3, e_lease_Room_r4, e_lease_Room_r5, e_lease_Room_r6, e_lease_Room_r7, e_lease_Room_r8, e_lease_Room_r9, e_lease_Room_r10, e_lease_Room_r11, e_lease_Room_r12, e_lease_Room_r13, e_lease_Room_r14, e_lease_Room_r15, e_lease_Room_r16, e_lease_Room_r18, g1, anyB, roomF]
  | m + 1, j, a, hi, a0, a1 => by
    refine WL_step e_lease_Room_l17 ?_
    have hs1 := spsOk_iff.1 h1
    have ht1 := tkOk_iff.1 h2
    have g1 : j < l.length := by omega
    obtain ⟨s, hx⟩ : ∃ x, l[j]? = some x := ⟨_, List.getElem?_eq_getElem g1⟩
    have hB := fun σ => C_behind (σ := σ) h1 h2 (List.mem_of_getElem? hx)
    have hsk := spOk_iff.1 (hs1.2.2 s (List.mem_of_getElem? hx))
    have b1 := sp_at hx
    have g2 : k < s.l.length := by omega
    obtain ⟨r, hy⟩ : ∃ x, s.l[k]? = some x := ⟨_, List.getElem?_eq_getElem g2⟩
    have hrb := hsk.2.2.2 r (List.mem_of_getElem? hy)
    have b2 := rg_at hy
    have b3 := rgD_of hy
    have hbd := loF_bd ts s.l (1000 * s.flow) ht1.2 hsk.2.2.2
    have hbd' : -1000000000000 ≤ behLo s ts ∧ behLo s ts ≤ 1000000000000 := by unfold behLo; omega
    have w1 := wnext g1 (by omega)
    have w2 := w64 (n := 1000 * s.least) (by omega)
    have w3 := w64 (n := behLo s ts - 1000 * s.least) (by omega)
    rw [dropS hx, any_cons', roomF, b3]
    by_cases c1 : behLo s ts < 1000 * s.least
    · have d1 : harmP ts s = true := by simp [harmP, c1]
      have d2 : behLo s ts - 1000 * s.least < 0 := by omega
      simp [-List.length_flatMap, -List.map_take, e_lease_Room_r0, e_lease_Room_r1, e_lease_Room_r2, e_lease_Room_r3, e_lease_Room_r4, e_lease_Room_r5, e_lease_Room_r6, e_lease_Room_r7, e_lease_Room_r8, e_lease_Room_r9, e_lease_Room_r10, e_lease_Room_r11, e_lease_Room_r12, e_lease_Room_r13, e_lease_Room_r14, e_lease_Room_r15, e_lease_Room_r16, e_lease_Room_r18, g1, b1, hB, w1, w2, w3, d1, d2]
    · have d1 : harmP ts s = false := by simp [harmP]; omega
      have d2 : ¬ behLo s ts - 1000 * s.least < 0 := by omega
      by_cases c2 : 0 < r.hi
      · have t1 : (behLo s ts - 1000 * s.least).tdiv r.hi = (behLo s ts - 1000 * s.least) / r.hi := Int.tdiv_eq_ediv_of_nonneg (by omega)
        have t2 : 0 ≤ (behLo s ts - 1000 * s.least) / r.hi := Int.ediv_nonneg (by omega) (by omega)
        have t3 : (behLo s ts - 1000 * s.least) / r.hi ≤ behLo s ts - 1000 * s.least := Int.ediv_le_self _ (by omega)
        have w4 := w64 (n := (behLo s ts - 1000 * s.least) / r.hi) (by omega)
        have t4 : ¬ r.hi = 0 := by omega
        have ih := L_Room h1 h2 hk m (j + 1) (min a ((behLo s ts - 1000 * s.least) / r.hi)) (by omega) (by omega) (by omega)
        simp [-List.length_flatMap, -List.map_take, e_lease_Room_r0, e_lease_Room_r1, e_lease_Room_r2, e_lease_Room_r3, e_lease_Room_r4, e_lease_Room_r5, e_lease_Room_r6, e_lease_Room_r7, e_lease_Room_r8, e_lease_Room_r9, e_lease_Room_r10, e_lease_Room_r11, e_lease_Room_r12, e_lease_Room_r13, e_lease_Room_r14, e_lease_Room_r15, e_lease_Room_r16, e_lease_Room_r18, g1, g2, b1, b2, hB, w1, w2, w3, d1, d2, c2, t1, t4, w4]
        exact WL.to ih (by simp) rfl fun x e σ hh => by simpa [d1, c2] using hh
      · have ih := L_Room h1 h2 hk m (j + 1) a (by omega) a0 a1
        simp [-List.length_flatMap, -List.map_take, e_lease_Room_r0, e_lease_Room_r1, e_lease_Room_r2, e_lease_Room_r3, e_lease_Room_r4, e_lease_Room_r5, e_lease_Room_r6, e_lease_Room_r7, e_lease_Room_r8, e_lease_Room_r9, e_lease_Room_r10, e_lease_Room_r11, e_lease_Room_r12, e_lease_Room_r13, e_lease_Room_r14, e_lease_Room_r15, e_lease_Room_r16, e_lease_Room_r18, g1, g2, b1, b2, hB, w1, w2, w3, d1, d2, c2]
        exact WL.to ih (by simp) rfl fun x e σ hh => by simpa [d1, c2] using hh
def roomD (l : List Sp) (ts : List Int) (k : Int) : D :=
  if takE l ts = 0 then (if 0 ≤ k ∧ k < ts.length then (if anyB l (harmP ts) then .tup [.int .i64 0, .int .i64 9] else .tup [.int .i64 (roomF ts k.toNat l (1000000 - ts.getD k.toNat 0)), .int .i64 0]) else .tup [.int .i64 0, .int .i64 2]) else .tup [.int .i64 0, .int .i64 (takE l ts)]
theorem tak_zero {l : List Sp} {ts : List Int} : takE l ts = 0 ↔ spsOk l = true ∧ tkOk l ts = true := by
  unfold takE
  cases h : spsOk l <;> cases h' : tkOk l ts <;> simp
theorem C_Room {l : List Sp} (hc : Some15 l) {ts : List Int} (ht : ts.length ≤ 1000) {k : Int} : lim T (.call false i_lease_Room [spsD l, .lst ts.length (ts.flatMap intE), .int .i64 k] σ) = some (.val (roomD l ts k) σ) := by
  refine call_of T_lease_Room e_lease_Room rfl ?_
  have hT := fun σ => C_taking (σ := σ) hc ht
  simp only [spsD] at hT
  unfold roomD
  by_cases h0 : takE l ts = 0
  rotate_left
  · simp [-List.length_flatMap, -List.map_take, e_lease_Room_r0, e_lease_Room_r1, e_lease_Room_r2, e_lease_Room_r3, e_lease_Room_r4, e_lease_Room_r5, e_lease_Room_r6, e_lease_Room_r7, e_lease_Room_r8, e_lease_Room_r9, e_lease_Room_r10, e_lease_Room_r11, e_lease_Room_r12, e_lease_Room_r13, e_lease_Room_r14, e_lease_Room_r15, e_lease_Room_r16, e_lease_Room_r18, hT, h0]
  rw [h0] at hT
  obtain ⟨h1, h2⟩ := tak_zero.1 h0
  have w1 := w64 (n := (ts.length : Int) - 1) (by omega)
  by_cases hk : 0 ≤ k ∧ k < ts.length
  rotate_left
  · have i1 : inn k 0 ((ts.length : Int) - 1) = false := inn_no (by omega)
    simp [-List.length_flatMap, -List.map_take, e_lease_Room_r0, e_lease_Room_r1, e_lease_Room_r2, e_lease_Room_r3, e_lease_Room_r4, e_lease_Room_r5, e_lease_Room_r6, e_lease_Room_r7, e_lease_Room_r8, e_lease_Room_r9, e_lease_Room_r10, e_lease_Room_r11, e_lease_Room_r12, e_lease_Room_r13, e_lease_Room_r14, e_lease_Room_r15, e_lease_Room_r16, e_lease_Room_r18, hT, h0, w1, D_within, i1, hk]
  have i1 : inn k 0 ((ts.length : Int) - 1) = true := inn_iff.2 (by omega)
  obtain ⟨n, rfl⟩ : ∃ n : Nat, k = n := ⟨k.toNat, by omega⟩
  have hn : n < ts.length := by omega
  obtain ⟨t, hx⟩ : ∃ x, ts[n]? = some x := ⟨_, List.getElem?_eq_getElem hn⟩
  have a1 := int_at hx
  have a2 := getD_of hx
  have ht1 := tkOk_iff.1 h2
  have htb := ht1.2 t (List.mem_of_getElem? hx)
  have w2 := w64 (n := 1000000 - t) (by omega)
  simp [-List.length_flatMap, -List.map_take, e_lease_Room_r0, e_lease_Room_r1, e_lease_Room_r2, e_lease_Room_r3, e_lease_Room_r4, e_lease_Room_r5, e_lease_Room_r6, e_lease_Room_r7, e_lease_Room_r8, e_lease_Room_r9, e_lease_Room_r10, e_lease_Room_r11, e_lease_Room_r12, e_lease_Room_r13, e_lease_Room_r14, e_lease_Room_r15, e_lease_Room_r16, e_lease_Room_r18, hT, h0, w1, w2, D_within, i1, hn, a1]
  refine WL.to (L_Room (σ := [] :: σ) h1 h2 hn l.length 0 (1000000 - t) (by omega) (by omega) (by omega)) (by simp) rfl ?_
  rintro x e σ' ⟨rfl, hh⟩
  rw [List.drop_zero] at hh
  cases hA : anyB l (harmP ts)
  · rw [hA] at hh
    simp only [Bool.false_eq_true, if_false] at hh
    obtain ⟨rfl, g9⟩ := hh
    simp [-List.length_flatMap, -List.map_take, e_lease_Room_r18, g9, hx, h0, hn, (List.getElem?_eq_some_iff.1 hx).2]
  · rw [hA] at hh
    simp only [if_true] at hh
    obtain ⟨rfl, g6, g7⟩ := hh
    simp [g6, g7, h0, hn]

/-! ### The law's copies -/

def someB (l : List Sp) : Bool := allB l (fun s => decide ((s.l.length : Int) ≤ 25)) && decide ((l.length : Int) ≤ 15)
theorem someB_iff {l : List Sp} : someB l = true ↔ Some15 l := by
  simp only [someB, Bool.and_eq_true, allB_iff, decide_eq_true_eq, Some15]
  constructor
  · rintro ⟨h1, h2⟩; exact ⟨by omega, fun r hr => by have := h1 r hr; omega⟩
  · rintro ⟨h1, h2⟩; exact ⟨fun r hr => by have := h2 r hr; omega, by omega⟩
theorem L_some {l : List Sp} (hl : l.length ≤ 9223372036854775807) : ∀ (m i : Nat), i + m = l.length →
    WL T [0, 3] false f_law11_some_l6 [(0, spsD l), (3, .int .i64 i)] σ
      (fun x e σ' => σ' = σ ∧ if allB (l.drop i) (fun s => decide ((s.l.length : Int) ≤ 25)) then x = .exit 0 ∧ get e 0 = spsD l else x = .ret ∧ get e 2 = .bool false)
  | 0, i, hi => by
    refine WL_step e_law11_some_l6 ?_
    have h1 : ¬ i < l.length := by omega
    have h2 : l.drop i = [] := List.drop_eq_nil_of_le (by omega)
    rw [h2]
    simp [-List.length_flatMap, -List.map_take, e_law11_some_r0, e_law11_some_r1, e_law11_some_r2, e_law11_some_r3, e_law11_some_r4, e_law11_some_r5, e_law11_some_r7, h1, allB_nil]
  | m + 1, i, hi => by
    refine WL_step e_law11_some_l6 ?_
    have h1 : i < l.length := by omega
    obtain ⟨s, hr⟩ : ∃ x, l[i]? = some x := ⟨_, List.getElem?_eq_getElem h1⟩
    have a1 := sp_at hr
    have w1 := wnext h1 hl
    have ih := L_some hl m (i + 1) (by omega)
    rw [dropS hr, allB_cons]
    by_cases h2 : (25 : Int) < s.l.length
    · have h3 : ¬ (s.l.length : Int) ≤ 25 := by omega
      simp [-List.length_flatMap, -List.map_take, e_law11_some_r0, e_law11_some_r1, e_law11_some_r2, e_law11_some_r3, e_law11_some_r4, e_law11_some_r5, e_law11_some_r7, h1, a1, w1, h2, h3]
    · have h3 : (s.l.length : Int) ≤ 25 := by omega
      simp [-List.length_flatMap, -List.map_take, e_law11_some_r0, e_law11_some_r1, e_law11_some_r2, e_law11_some_r3, e_law11_some_r4, e_law11_some_r5, e_law11_some_r7, h1, a1, w1, h2, h3]
      exact WL.to ih (by simp) rfl fun x e σ hh => by simpa [h3] using hh
theorem C_some {l : List Sp} (hl : l.length ≤ 9223372036854775807) : lim T (.call false i_law11_some [spsD l] σ) = some (.val (.bool (someB l)) σ) := by
  refine call_of T_law11_some e_law11_some rfl ?_
  simp [-List.length_flatMap, -List.map_take, e_law11_some_r0, e_law11_some_r1, e_law11_some_r2, e_law11_some_r3, e_law11_some_r4, e_law11_some_r5, e_law11_some_r7]
  refine WL.to (L_some (σ := [] :: σ) hl l.length 0 (by omega)) (by simp) rfl ?_
  rintro x e σ' ⟨rfl, hh⟩
  rw [List.drop_zero] at hh
  unfold someB
  cases h : allB l (fun s => decide ((s.l.length : Int) ≤ 25))
  · rw [h] at hh
    simp only [Bool.false_eq_true, if_false] at hh
    obtain ⟨rfl, g2⟩ := hh
    simp [g2]
  · rw [h] at hh
    simp only [if_true] at hh
    obtain ⟨rfl, g0⟩ := hh
    simp [-List.length_flatMap, -List.map_take, e_law11_some_r7, g0]
theorem L_Springs2 {l : List Sp} {j : Nat} {s : Sp} (hj : l[j]? = some s) (hs : s.l.length ≤ 25) {d3 : D} (s3 : d3.calm = d3) : ∀ (m i v : Nat), i + m = s.l.length →
    WL T [0, 3, 4, 5, 6] false f_law11_Springs_l9 [(0, spsD l), (3, d3), (4, .int .i64 j), (5, .own 0 [.int .i64 s.flow, .int .i64 s.least, .sl σ.length 0 v 0 i 2]), (6, .int .i64 i)] ([.cells v ((s.l.take i).flatMap Rg.enc)] :: σ)
      (fun x e σ' => x = .exit 2 ∧ get e 0 = spsD l ∧ get e 3 = d3 ∧ get e 4 = .int .i64 j ∧ get e 5 = .own 0 [.int .i64 s.flow, .int .i64 s.least, .sl σ.length 0 (v + m) 0 s.l.length 2] ∧ σ' = [.cells (v + m) (s.l.flatMap Rg.enc)] :: σ)
  | 0, i, v, hi => by
    refine WL_step e_law11_Springs_l9 ?_
    have g0 : j < l.length := (List.getElem?_eq_some_iff.1 hj).1
    have g1 : ¬ i < s.l.length := by omega
    have g2 : s.l.take i = s.l := List.take_of_length_le (by omega)
    have g3 : i = s.l.length := by omega
    have a1 := sp_at hj
    rw [g2]
    simp [-List.length_flatMap, -List.map_take, e_law11_Springs_r0, e_law11_Springs_r1, e_law11_Springs_r2, e_law11_Springs_r3, e_law11_Springs_r4, e_law11_Springs_r5, e_law11_Springs_r6, e_law11_Springs_r7, e_law11_Springs_r8, e_law11_Springs_r10, e_law11_Springs_r11, e_law11_Springs_r13, g0, g3, a1, s3]
  | m + 1, i, v, hi => by
    refine WL_step e_law11_Springs_l9 ?_
    have g0 : j < l.length := (List.getElem?_eq_some_iff.1 hj).1
    have g1 : i < s.l.length := by omega
    obtain ⟨r, hx⟩ : ∃ x, s.l[i]? = some x := ⟨_, List.getElem?_eq_getElem g1⟩
    have a1 := sp_at hj
    have a2 := rg_at hx
    have b3 := flat_take (f := Rg.enc) (w := 2) (fun _ => rfl) (Nat.le_of_lt g1)
    have b4 := flat_snoc (f := Rg.enc) hx
    have b5 := flat_len (f := Rg.enc) (w := 2) (fun _ => rfl) (s.l.take i)
    have w1 := wnext g1 (by omega)
    have b7 : (i + 1) * 16 ≤ room := by unfold room; omega
    have b8 : min i s.l.length = i := by omega
    have ih := L_Springs2 hj hs s3 m (i + 1) (v + 1) (by omega)
    simp [-List.length_flatMap, -List.map_take, e_law11_Springs_r0, e_law11_Springs_r1, e_law11_Springs_r2, e_law11_Springs_r3, e_law11_Springs_r4, e_law11_Springs_r5, e_law11_Springs_r6, e_law11_Springs_r7, e_law11_Springs_r8, e_law11_Springs_r10, e_law11_Springs_r11, e_law11_Springs_r13, g0, g1, a1, a2, b3, b5, b7, b8, w1, s3]
    refine WL.to ih (by simp) (by simp [← b4]) fun x e σ hh => by simpa [Nat.add_assoc, Nat.add_comm 1 m] using hh
theorem L_Springs {l : List Sp} (hc : Some15 l) (hσ : σ ≠ []) : ∀ (m j v : Nat), j + m = l.length →
    WL T [0, 3, 4] true f_law11_Springs_l12 [(0, spsD l), (3, .sl σ.length 0 v 0 j 3), (4, .int .i64 j)] ([.cells v ((l.take j).flatMap Sp.enc)] :: σ)
      (fun x e σ' => x = .exit 0 ∧ get e 3 = .sl σ.length 0 (v + m) 0 l.length 3 ∧ σ' = [.cells (v + m) (l.flatMap Sp.enc)] :: σ)
  | 0, j, v, hi => by
    refine WL_stepS e_law11_Springs_l12 ?_
    have h1 : ¬ j < l.length := by omega
    have h3 : l.take j = l := List.take_of_length_le (by omega)
    have h4 : j = l.length := by omega
    subst h4
    simp [-List.length_flatMap, -List.map_take, e_law11_Springs_r0, e_law11_Springs_r1, e_law11_Springs_r2, e_law11_Springs_r3, e_law11_Springs_r4, e_law11_Springs_r5, e_law11_Springs_r6, e_law11_Springs_r7, e_law11_Springs_r8, e_law11_Springs_r10, e_law11_Springs_r11, e_law11_Springs_r13]
  | m + 1, j, v, hi => by
    refine WL_stepS e_law11_Springs_l12 ?_
    have hll := hc.1
    have h1 : j < l.length := by omega
    obtain ⟨s, hx⟩ : ∃ x, l[j]? = some x := ⟨_, List.getElem?_eq_getElem h1⟩
    have hs := hc.2 s (List.mem_of_getElem? hx)
    have a1 := sp_at hx
    simp [-List.length_flatMap, -List.map_take, e_law11_Springs_r0, e_law11_Springs_r1, e_law11_Springs_r2, e_law11_Springs_r3, e_law11_Springs_r4, e_law11_Springs_r5, e_law11_Springs_r6, e_law11_Springs_r7, e_law11_Springs_r8, e_law11_Springs_r10, e_law11_Springs_r11, e_law11_Springs_r13, h1, a1]
    refine WL.to (L_Springs2 (σ := [.cells v ((l.take j).flatMap Sp.enc)] :: σ) hx hs (d3 := .sl σ.length 0 v 0 j 3) rfl s.l.length 0 0 (by omega)) (by simp) (by simp) ?_
    rintro x e σ' ⟨rfl, g0, g3, g4, g5, rfl⟩
    have b3 := flat_take (f := Sp.enc) (w := 3) (fun _ => rfl) (Nat.le_of_lt h1)
    have b4 := flat_snoc (f := Sp.enc) hx
    have b5 := flat_len (f := Sp.enc) (w := 3) (fun _ => rfl) (l.take j)
    have w1 := wnext h1 (by omega)
    have b7 : (j + 1) * 40 ≤ room := by unfold room; omega
    have b8 : min j l.length = j := by omega
    have z1 := out_at (σ := [.cells v ((l.take j).flatMap Sp.enc)] :: σ) (n := 16) (f := Rg.enc) (w := 2) (by decide) (fun _ => rfl) (fun x => by simp) (l := s.l) (j := 0) (v := 0 + s.l.length) (bs := [.cells (0 + s.l.length) (s.l.flatMap Rg.enc)]) (by simp) rfl
    simp only [List.length_cons, Nat.add_sub_cancel, Nat.zero_add] at z1
    simp only [Nat.zero_add] at g5
    have ih := L_Springs hc hσ m (j + 1) (v + 1) (by omega)
    simp [-List.length_flatMap, -List.map_take, e_law11_Springs_r10, e_law11_Springs_r11, g0, g3, g4, g5, b3, b5, b7, b8, w1, z1]
    refine WL.to ih (by simp) (by simp [← b4]) fun x e σ hh => by simpa [Nat.add_assoc, Nat.add_comm 1 m] using hh
theorem C_Springs {l : List Sp} (hc : Some15 l) (hσ : σ ≠ []) : lim T (.call false i_law11_Springs [spsD l] σ) = some (.val (spsD l) σ) := by
  refine call_of T_law11_Springs e_law11_Springs rfl ?_
  simp [-List.length_flatMap, -List.map_take, e_law11_Springs_r0, e_law11_Springs_r1, e_law11_Springs_r2, e_law11_Springs_r3, e_law11_Springs_r4, e_law11_Springs_r5, e_law11_Springs_r6, e_law11_Springs_r7, e_law11_Springs_r8, e_law11_Springs_r10, e_law11_Springs_r11, e_law11_Springs_r13]
  refine WL.to (L_Springs (σ := σ) hc hσ l.length 0 0 (by omega)) (by simp) (by simp) ?_
  rintro x e σ' ⟨rfl, g3, rfl⟩
  simp [-List.length_flatMap, -List.map_take, e_law11_Springs_r13, g3]
  rw [out_at (f := Sp.enc) (w := 3) (by decide) (fun _ => rfl) (fun x => by simp) hσ (by simp)]
  simp
end Go.Proofs.Ytcccafphhmcifaa
