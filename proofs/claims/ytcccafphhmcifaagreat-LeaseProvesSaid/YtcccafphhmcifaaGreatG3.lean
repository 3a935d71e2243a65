/-
  Springs of layer 11: the room; the law's copies; the document's words.
-/
import Derived.Test.YtcccafphhmcifaaGreatG2
set_option linter.unusedVariables false
set_option linter.unusedSimpArgs false
namespace Go.Proofs.YtcccafphhmcifaaGreat
open Go Go.Abs Go.Lease
variable {σ : Stack}

theorem rgD_of {l : List Rg} {i : Nat} {r : Rg} (h : l[i]? = some r) : l.getD i ⟨0, 0⟩ = r := by rw [List.getD_eq_getElem?_getD, h]; rfl
theorem any_cons' {α : Type} {p : α → Bool} {x : α} {l : List α} : anyB (x :: l) p = (p x || anyB l p) := rfl
theorem L_Room {l : List Sp} (h1 : spsOk l = true) {ts : List Int} (h2 : tkOk l ts = true) {k : Nat} (hk : k < ts.length) : ∀ (m j : Nat) (a : Int), j + m = l.length → 0 ≤ a → a ≤ 1000000 →
    WL T [1, 2, 9, 31, 32, 33] false f_lease_Room_l17 [(1, .lst ts.length (ts.flatMap intE)), (2, .int .i64 k), (9, .int .i64 a), (31, spsD l), (32, .int .i64 l.length), (33, .int .i64 j)] σ
      (fun x e σ' => σ' = σ ∧ if anyB (l.drop j) (harmP ts) then x = .ret ∧ get e 6 = .int .i64 0 ∧ get e 7 = .int .i64 9 else x = .exit 0 ∧ get e 9 = .int .i64 (roomF ts k (l.drop j) a))
  | 0, j, a, hi, _, _ => by
    refine WL_step e_lease_Room_l17 ?_
    have g1 : ¬ j < l.length := by omega
    have g2 : l.drop j = [] := List.drop_eq_nil_of_le (by omega)
    rw [g2]
    simp [-List.length_flatMap, -List.map_take, e_lease_Room_r0, e_lease_Room_r1, e_lease_Room_r2, e_lease_Room_r3, e_lease_Room_r4, e_lease_Room_r5, e_lease_Room_r6, e_lease_Room_r7, e_lease_Room_r8, e_lease_Room_r9, e_lease_Room_r10, e_lease_Room_r11, e_lease_Room_r12, e_lease_Room_r13, e_lease_Room_r14, e_lease_Room_r15, e_lease_Room_r16, e_lease_Room_r18, g1, anyB, roomF]
  | m + 1, j, a, hi, a0, a1 => by
    refine WL_step e_lease_Room_l17 ?_
    have hs1 := spsOk_iff.1 h1
    have ht1 := tkOk_iff.1 h2
    have g1 : j < l.length := by omega
    obtain ⟨s, hx⟩ : ∃ x, l[j]? = some x := ⟨_, List.getElem?_eq_getElem g1⟩
    have hB := fun σ => C_behind (σ := σ) h1 h2 (List.mem_of_getElem? hx)
    have hsk := spOk_iff.1 (hs1.2.2 s (List.mem_of_getElem? hx))
    have b1 := sp_at hx
    have g2 : k < s.l.length := by omega
    obtain ⟨r, hy⟩ : ∃ x, s.l[k]? = some x := ⟨_, List.getElem?_eq_getElem g2⟩
    have hrb := hsk.2.2.2 r (List.mem_of_getElem? hy)
    have b2 := rg_at hy
    have b3 := rgD_of hy
    have hbd := loF_bd ts s.l (1000 * s.flow) ht1.2 hsk.2.2.2
    have hbd' : -1000000000000 ≤ behLo s ts ∧ behLo s ts ≤ 1000000000000 := by unfold behLo; omega
    have w1 := wnext g1 (by omega)
    have w2 := w64 (n := 1000 * s.least) (by omega)
    have w3 := w64 (n := behLo s ts - 1000 * s.least) (by omega)
    rw [dropS hx, any_cons', roomF, b3]
    by_cases c1 : behLo s ts < 1000 * s.least
    · have d1 : harmP ts s = true := by simp [harmP, c1]
      have d2 : behLo s ts - 1000 * s.least < 0 := by omega
      simp [-List.length_flatMap, -List.map_take, e_lease_Room_r0, e_lease_Room_r1, e_lease_Room_r2, e_lease_Room_r3, e_lease_Room_r4, e_lease_Room_r5, e_lease_Room_r6, e_lease_Room_r7, e_lease_Room_r8, e_lease_Room_r9, e_lease_Room_r10, e_lease_Room_r11, e_lease_Room_r12, e_lease_Room_r13, e_lease_Room_r14, e_lease_Room_r15, e_lease_Room_r16, e_lease_Room_r18, g1, b1, hB, w1, w2, w3, d1, d2]
    · have d1 : harmP ts s = false := by simp [harmP]; omega
      have d2 : ¬ behLo s ts - 1000 * s.least < 0 := by omega
      by_cases c2 : 0 < r.hi
      · have t1 : (behLo s ts - 1000 * s.least).tdiv r.hi = (behLo s ts - 1000 * s.least) / r.hi := Int.tdiv_eq_ediv_of_nonneg (by omega)
        have t2 : 0 ≤ (behLo s ts - 1000 * s.least) / r.hi := Int.ediv_nonneg (by omega) (by omega)
        have t3 : (behLo s ts - 1000 * s.least) / r.hi ≤ behLo s ts - 1000 * s.least := Int.ediv_le_self _ (by omega)
        have w4 := w64 (n := (behLo s ts - 1000 * s.least) / r.hi) (by omega)
        have t4 : ¬ r.hi = 0 := by omega
        have ih := L_Room h1 h2 hk m (j + 1) (min a ((behLo s ts - 1000 * s.least) / r.hi)) (by omega) (by omega) (by omega)
        simp [-List.length_flatMap, -List.map_take, e_lease_Room_r0, e_lease_Room_r1, e_lease_Room_r2, e_lease_Room_r3, e_lease_Room_r4, e_lease_Room_r5, e_lease_Room_r6, e_lease_Room_r7, e_lease_Room_r8, e_lease_Room_r9, e_lease_Room_r10, e_lease_Room_r11, e_lease_Room_r12, e_lease_Room_r13, e_lease_Room_r14, e_lease_Room_r15, e_lease_Room_r16, e_lease_Room_r18, g1, g2, b1, b2, hB, w1, w2, w3, d1, d2, c2, t1, t4, w4]
        exact WL.to ih (by simp) rfl fun x e σ hh => by simpa [d1, c2] using hh
      · have ih := L_Room h1 h2 hk m (j + 1) a (by omega) a0 a1
        simp [-List.length_flatMap, -List.map_take, e_lease_Room_r0, e_lease_Room_r1, e_lease_Room_r2, e_lease_Room_r3, e_lease_Room_r4, e_lease_Room_r5, e_lease_Room_r6, e_lease_Room_r7, e_lease_Room_r8, e_lease_Room_r9, e_lease_Room_r10, e_lease_Room_r11, e_lease_Room_r12, e_lease_Room_r13, e_lease_Room_r14, e_lease_Room_r15, e_lease_Room_r16, e_lease_Room_r18, g1, g2, b1, b2, hB, w1, w2, w3, d1, d2, c2]
        exact WL.to ih (by simp) rfl fun x e σ hh => by simpa [d1, c2] using hh
def roomD (l : List Sp) (ts : List Int) (k : Int) : D :=
  if takE l ts = 0 then (if 0 ≤ k ∧ k < ts.length then (if anyB l (harmP ts) then .tup [.int .i64 0, .int .i64 9] else .tup [.int .i64 (roomF ts k.toNat l (1000000 - ts.getD k.toNat 0)), .int .i64 0]) else .tup [.int .i64 0, .int .i64 2]) else .tup [.int .i64 0, .int .i64 (takE l ts)]
theorem tak_zero {l : List Sp} {ts : List Int} : takE l ts = 0 ↔ spsOk l = true ∧ tkOk l ts = true := by
  unfold takE
  cases h : spsOk l <;> cases h' : tkOk l ts <;> simp
theorem C_Room {l : List Sp} (hc : Some15 l) {ts : List Int} (ht : ts.length ≤ 1000) {k : Int} : lim T (.call false i_lease_Room [spsD l, .lst ts.length (ts.flatMap intE), .int .i64 k] σ) = some (.val (roomD l ts k) σ) := by
  refine call_of T_lease_Room e_lease_Room rfl ?_
  have hT := fun σ => C_taking (σ := σ) hc ht
  simp only [spsD] at hT
  unfold roomD
  by_cases h0 : takE l ts = 0
  rotate_left
  · simp [-List.length_flatMap, -List.map_take, e_lease_Room_r0, e_lease_Room_r1, e_lease_Room_r2, e_lease_Room_r3, e_lease_Room_r4, e_lease_Room_r5, e_lease_Room_r6, e_lease_Room_r7, e_lease_Room_r8, e_lease_Room_r9, e_lease_Room_r10, e_lease_Room_r11, e_lease_Room_r12, e_lease_Room_r13, e_lease_Room_r14, e_lease_Room_r15, e_lease_Room_r16, e_lease_Room_r18, hT, h0]
  rw [h0] at hT
  obtain ⟨h1, h2⟩ := tak_zero.1 h0
  have w1 := w64 (n := (ts.length : Int) - 1) (by omega)
  by_cases hk : 0 ≤ k ∧ k < ts.length
  rotate_left
  · have i1 : inn k 0 ((ts.length : Int) - 1) = false := inn_no (by omega)
    simp [-List.length_flatMap, -List.map_take, e_lease_Room_r0, e_lease_Room_r1, e_lease_Room_r2, e_lease_Room_r3, e_lease_Room_r4, e_lease_Room_r5, e_lease_Room_r6, e_lease_Room_r7, e_lease_Room_r8, e_lease_Room_r9, e_lease_Room_r10, e_lease_Room_r11, e_lease_Room_r12, e_lease_Room_r13, e_lease_Room_r14, e_lease_Room_r15, e_lease_Room_r16, e_lease_Room_r18, hT, h0, w1, D_within, i1, hk]
  have i1 : inn k 0 ((ts.length : Int) - 1) = true := inn_iff.2 (by omega)
  obtain ⟨n, rfl⟩ : ∃ n : Nat, k = n := ⟨k.toNat, by omega⟩
  have hn : n < ts.length := by omega
  obtain ⟨t, hx⟩ : ∃ x, ts[n]? = some x := ⟨_, List.getElem?_eq_getElem hn⟩
  have a1 := int_at hx
  have a2 := getD_of hx
  have ht1 := tkOk_iff.1 h2
  have htb := ht1.2 t (List.mem_of_getElem? hx)
  have w2 := w64 (n := 1000000 - t) (by omega)
  simp [-List.length_flatMap, -List.map_take, e_lease_Room_r0, e_lease_Room_r1, e_lease_Room_r2, e_lease_Room_r3, e_lease_Room_r4, e_lease_Room_r5, e_lease_Room_r6, e_lease_Room_r7, e_lease_Room_r8, e_lease_Room_r9, e_lease_Room_r10, e_lease_Room_r11, e_lease_Room_r12, e_lease_Room_r13, e_lease_Room_r14, e_lease_Room_r15, e_lease_Room_r16, e_lease_Room_r18, hT, h0, w1, w2, D_within, i1, hn, a1]
  refine WL.to (L_Room (σ := [] :: σ) h1 h2 hn l.length 0 (1000000 - t) (by omega) (by omega) (by omega)) (by simp) rfl ?_
  rintro x e σ' ⟨rfl, hh⟩
  rw [List.drop_zero] at hh
  cases hA : anyB l (harmP ts)
  · rw [hA] at hh
    simp only [Bool.false_eq_true, if_false] at hh
    obtain ⟨rfl, g9⟩ := hh
    simp [-List.length_flatMap, -List.map_take, e_lease_Room_r18, g9, hx, h0, hn, (List.getElem?_eq_some_iff.1 hx).2]
  · rw [hA] at hh
    simp only [if_true] at hh
    obtain ⟨rfl, g6, g7⟩ := hh
    simp [g6, g7, h0, hn]

/-! ### The law's copies -/

def someB (l : List Sp) : Bool := allB l (fun s => decide ((s.l.length : Int) ≤ 25)) && decide ((l.length : Int) ≤ 15)
theorem someB_iff {l : List Sp} : someB l = true ↔ Some15 l := by
  simp only [someB, Bool.and_eq_true, allB_iff, decide_eq_true_eq, Some15]
  constructor
  · rintro ⟨h1, h2⟩; exact ⟨by omega, fun r hr => by have := h1 r hr; omega⟩
  · rintro ⟨h1, h2⟩; exact ⟨fun r hr => by have := h2 r hr; omega, by omega⟩
end Go.Proofs.YtcccafphhmcifaaGreat
