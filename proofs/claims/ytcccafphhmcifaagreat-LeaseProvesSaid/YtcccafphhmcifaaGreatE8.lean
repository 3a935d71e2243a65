/-
  Programmes of layer 11: outlooks, the year that is short, of the program and by the document's words.
-/
import Derived.Test.YtcccafphhmcifaaGreatE7
set_option linter.unusedVariables false
set_option linter.unusedSimpArgs false
namespace Go.Proofs.YtcccafphhmcifaaGreat
open Go Go.Abs Go.Lease
variable {σ : Stack}

def stO (σ : Stack) (acc : List Int) : Stack := [.cells acc.length (acc.flatMap intE), .cells 0 [.sl σ.length 0 acc.length 0 acc.length 1]] :: σ
def outD (p : Pg) (ks : List Int) : D :=
  if pgOk p then (if planOk p ks then (if folIs p p.l ks p.start then .tup [.lst (folCaps p p.l ks p.start).length ((folCaps p p.l ks p.start).flatMap intE), .int .i64 (folCost p p.l ks p.start), .int .i64 0]
    else .tup [.lst 0 [], .int .i64 0, .int .i64 9]) else .tup [.lst 0 [], .int .i64 0, .int .i64 2]) else .tup [.lst 0 [], .int .i64 0, .int .i64 1]
theorem L_NumR {p : Pg} {ks : List Int} (hk : ks.length ≤ 1000000) : ∀ (m i : Nat), i + m = ks.length →
    WL T [1, 2, 5] false f_ref11_Numbers_l6 [(1, .lst ks.length (ks.flatMap intE)), (2, .cref p.enc), (5, .int .i64 i)] σ
      (fun x e σ' => σ' = σ ∧ if numOk p (ks.drop i) then x = .exit 0 ∧ get e 1 = .lst ks.length (ks.flatMap intE) ∧ get e 2 = .cref p.enc else x = .ret ∧ get e 4 = .bool false)
  | 0, i, hi => by
    refine WL_step e_ref11_Numbers_l6 ?_
    have h1 : ¬ i < ks.length := by omega
    have h2 : ks.drop i = [] := List.drop_eq_nil_of_le (by omega)
    rw [h2]
    simp [-List.length_flatMap, -List.map_take, e_ref11_Numbers_r0, e_ref11_Numbers_r1, e_ref11_Numbers_r2, e_ref11_Numbers_r3, e_ref11_Numbers_r4, e_ref11_Numbers_r5, e_ref11_Numbers_r7, h1, numOk, allB_nil]
  | m + 1, i, hi => by
    refine WL_step e_ref11_Numbers_l6 ?_
    have h1 : i < ks.length := by omega
    obtain ⟨k, hx⟩ : ∃ x, ks[i]? = some x := ⟨_, List.getElem?_eq_getElem h1⟩
    have a1 := int_at hx
    have w1 := wnext h1 (by omega)
    have ih := L_NumR (p := p) hk m (i + 1) (by omega)
    have e1 : numOk p (ks.drop i) = (inn k 0 p.most && numOk p (ks.drop (i + 1))) := by unfold numOk; rw [dropS hx, allB_cons]
    rw [e1]
    generalize numOk p (ks.drop (i + 1)) = G at *
    cases c1 : inn k 0 p.most
    · simp [-List.length_flatMap, -List.map_take, e_ref11_Numbers_r0, e_ref11_Numbers_r1, e_ref11_Numbers_r2, e_ref11_Numbers_r3, e_ref11_Numbers_r4, e_ref11_Numbers_r5, e_ref11_Numbers_r7, h1, a1, w1, D_In, c1]
    · simp [-List.length_flatMap, -List.map_take, e_ref11_Numbers_r0, e_ref11_Numbers_r1, e_ref11_Numbers_r2, e_ref11_Numbers_r3, e_ref11_Numbers_r4, e_ref11_Numbers_r5, e_ref11_Numbers_r7, h1, a1, w1, D_In, c1]
      exact WL.to ih (by simp) rfl fun x e σ hh => by simpa using hh
theorem C_NumR {p : Pg} {ks : List Int} (hk : ks.length ≤ 1000000) : lim T (.call false i_ref11_Numbers [.agg [.int .i64 p.start, .int .i64 p.gain, .int .i64 p.keep, .int .i64 p.most, .lst p.l.length (p.l.flatMap Yr.enc)], .lst ks.length (ks.flatMap intE)] σ) = some (.val (.bool (planOk p ks)) σ) := by
  refine call_of T_ref11_Numbers e_ref11_Numbers rfl ?_
  simp [-List.length_flatMap, -List.map_take, e_ref11_Numbers_r0, e_ref11_Numbers_r1, e_ref11_Numbers_r2, e_ref11_Numbers_r3, e_ref11_Numbers_r4, e_ref11_Numbers_r5, e_ref11_Numbers_r7]
  refine WL.to (L_NumR (σ := [] :: σ) (p := p) hk ks.length 0 (by omega)) (by simp) rfl ?_
  rintro x e σ' ⟨rfl, hh⟩
  rw [List.drop_zero] at hh
  cases hg : numOk p ks
  · rw [hg] at hh
    simp only [Bool.false_eq_true, if_false] at hh
    obtain ⟨rfl, g4⟩ := hh
    simp [g4, planOk, hg]
  · rw [hg] at hh
    simp only [if_true] at hh
    obtain ⟨rfl, g1, g2⟩ := hh
    have e1 : planOk p ks = ((ks.length : Int) == (p.l.length : Int)) := by
      unfold planOk
      rw [hg, Bool.and_true]
      by_cases h : ks.length = p.l.length
      · simp [h]
      · have : ¬ (ks.length : Int) = p.l.length := by omega
        simp [h, this]
    rw [e1]
    simp [-List.length_flatMap, -List.map_take, e_ref11_Numbers_r7, g1, g2]
theorem L_OutR {p : Pg} (hp : pgOk p = true) {ks : List Int} (hks : ks.length = p.l.length) (hk : ∀ k ∈ ks, 0 ≤ k ∧ k ≤ p.most) : ∀ (m i : Nat) (now cost : Int) (acc : List Int), i + m = ks.length → acc.length = i → 0 ≤ now → now ≤ 1000000 + 3000000 * i → 0 ≤ cost → cost ≤ 3000000 * i →
    WL T [1, 2, 7, 8, 9, 10] false f_ref11_Outlook_l12 [(1, .lst ks.length (ks.flatMap intE)), (2, .cref p.enc), (7, .sl σ.length 0 i 0 i 1), (8, .int .i64 now), (9, .int .i64 cost), (10, .int .i64 i)] ([.cells i (acc.flatMap intE)] :: σ)
      (fun x e σ' => if folIs p (p.l.drop i) (ks.drop i) now then x = .exit 0 ∧ get e 7 = .sl σ.length 0 ks.length 0 (acc ++ folCaps p (p.l.drop i) (ks.drop i) now).length 1 ∧ get e 9 = .int .i64 (cost + folCost p (p.l.drop i) (ks.drop i) now) ∧ σ' = [.cells ks.length ((acc ++ folCaps p (p.l.drop i) (ks.drop i) now).flatMap intE)] :: σ
        else x = .ret ∧ get e 4 = .nils ∧ get e 5 = .int .i64 0 ∧ get e 6 = .bool false ∧ ∃ s, σ' = s :: σ)
  | 0, i, now, cost, acc, hi, ha, h0, h1, c0, c1 => by
    refine WL_step e_ref11_Outlook_l12 ?_
    have g0 : i = ks.length := by omega
    have g1 : ¬ i < ks.length := by omega
    have g2 : ks.drop i = [] := List.drop_eq_nil_of_le (by omega)
    have g3 : p.l.drop i = [] := List.drop_eq_nil_of_le (by omega)
    rw [g2, g3]
    simp [-List.length_flatMap, -List.map_take, e_ref11_Outlook_r0, e_ref11_Outlook_r1, e_ref11_Outlook_r2, e_ref11_Outlook_r3, e_ref11_Outlook_r4, e_ref11_Outlook_r5, e_ref11_Outlook_r6, e_ref11_Outlook_r7, e_ref11_Outlook_r8, e_ref11_Outlook_r9, e_ref11_Outlook_r10, e_ref11_Outlook_r11, e_ref11_Outlook_r13, g1, folIs, folCost, folCaps, ha]
    omega
  | m + 1, i, now, cost, acc, hi, ha, h0, h1, c0, c1 => by
    refine WL_step e_ref11_Outlook_l12 ?_
    have hp1 := pgOk_iff.1 hp
    have g1 : i < ks.length := by omega
    have g1' : i < p.l.length := by omega
    obtain ⟨k, hx⟩ : ∃ x, ks[i]? = some x := ⟨_, List.getElem?_eq_getElem g1⟩
    obtain ⟨y, hy⟩ : ∃ x, p.l[i]? = some x := ⟨_, List.getElem?_eq_getElem g1'⟩
    have hyk := hp1.2.2.2.2.2 y (List.mem_of_getElem? hy)
    have hkk := hk k (List.mem_of_getElem? hx)
    have hk3 : 0 ≤ k ∧ k ≤ 3 := by omega
    have haf := aft_le hp h0 (j := k) hkk.1 hkk.2
    have hg := gain_bd hp hk3
    have hpr := price_bd hk3 (yrOk_iff.1 hyk).2
    have a1 := int_at hx
    have a2 := yr_at hy
    have m0 : 0 ≤ (now + k * p.gain) * p.keep := Int.mul_nonneg (by omega) hp1.2.2.1.1
    have m1 : (now + k * p.gain) * p.keep ≤ 503000000 * 1000 := Int.le_trans (Int.mul_le_mul_of_nonneg_right (by omega) hp1.2.2.1.1) (Int.mul_le_mul_of_nonneg_left hp1.2.2.1.2 (by decide))
    have w1 := wnext g1 (by omega)
    have w2 := w64 (n := k * p.gain) (by omega)
    have w3 := w64 (n := now + k * p.gain) (by omega)
    have w4 := w64 (n := cost + k * y.price) (by omega)
    have w5 := w64 (n := (now + k * p.gain) * p.keep) (by omega)
    have w6 : ((now + k * p.gain) * p.keep).tdiv 1000 = aft p now k := Int.tdiv_eq_ediv_of_nonneg m0
    have w7 := w64 (n := aft p now k) (by unfold aft; omega)
    have w8 := w64 (n := k * y.price) (by omega)
    have i1 := flat_len (f := intE) (w := 1) (fun _ => rfl) acc
    rw [Nat.mul_one, ha] at i1
    have i2 : (acc.flatMap intE).take i = acc.flatMap intE := List.take_of_length_le (by omega)
    have i3 : (i + 1) * 8 ≤ room := by unfold room; omega
    have ih := L_OutR hp hks hk m (i + 1) (aft p now k) (cost + k * y.price) (acc ++ [now + k * p.gain]) (by omega) (by simp [ha]) haf.1 (by omega) (by omega) (by omega)
    rw [dropS hx, dropS hy]
    by_cases hn : y.need ≤ now + k * p.gain
    · have hn' : ¬ now + k * p.gain < y.need := by omega
      simp [-List.length_flatMap, -List.map_take, e_ref11_Outlook_r0, e_ref11_Outlook_r1, e_ref11_Outlook_r2, e_ref11_Outlook_r3, e_ref11_Outlook_r4, e_ref11_Outlook_r5, e_ref11_Outlook_r6, e_ref11_Outlook_r7, e_ref11_Outlook_r8, e_ref11_Outlook_r9, e_ref11_Outlook_r10, e_ref11_Outlook_r11, e_ref11_Outlook_r13, g1, g1', a1, a2, hn', w1, w2, w3, w4, w5, w6, w7, w8, i1, i2, i3]
      refine WL.to ih (by simp) (by simp) fun x e σ hh => ?_
      simp only [folIs, hn, decide_true, Bool.true_and, folCost, folCaps] at hh ⊢
      simpa [Int.add_assoc, List.append_assoc] using hh
    · have hn' : now + k * p.gain < y.need := by omega
      simp [-List.length_flatMap, -List.map_take, e_ref11_Outlook_r0, e_ref11_Outlook_r1, e_ref11_Outlook_r2, e_ref11_Outlook_r3, e_ref11_Outlook_r4, e_ref11_Outlook_r5, e_ref11_Outlook_r6, e_ref11_Outlook_r7, e_ref11_Outlook_r8, e_ref11_Outlook_r9, e_ref11_Outlook_r10, e_ref11_Outlook_r11, e_ref11_Outlook_r13, g1, g1', a1, a2, hn', w1, w2, w3]
      simp [folIs, hn]
def outR (p : Pg) (ks : List Int) : D := if folIs p p.l ks p.start then .tup [.lst (folCaps p p.l ks p.start).length ((folCaps p p.l ks p.start).flatMap intE), .int .i64 (folCost p p.l ks p.start), .bool true] else .tup [.nils, .int .i64 0, .bool false]
theorem C_OutR {p : Pg} (hp : pgOk p = true) {ks : List Int} (hk : planOk p ks = true) (hσ : σ ≠ []) : lim T (.call false i_ref11_Outlook [.agg [.int .i64 p.start, .int .i64 p.gain, .int .i64 p.keep, .int .i64 p.most, .lst p.l.length (p.l.flatMap Yr.enc)], .lst ks.length (ks.flatMap intE)] σ) = some (.val (outR p ks) σ) := by
  refine call_of T_ref11_Outlook e_ref11_Outlook rfl ?_
  have hp1 := pgOk_iff.1 hp
  have hk1 := planOk_iff.1 hk
  unfold outR
  simp [-List.length_flatMap, -List.map_take, e_ref11_Outlook_r0, e_ref11_Outlook_r1, e_ref11_Outlook_r2, e_ref11_Outlook_r3, e_ref11_Outlook_r4, e_ref11_Outlook_r5, e_ref11_Outlook_r6, e_ref11_Outlook_r7, e_ref11_Outlook_r8, e_ref11_Outlook_r9, e_ref11_Outlook_r10, e_ref11_Outlook_r11, e_ref11_Outlook_r13]
  refine WL.to (L_OutR (σ := σ) hp hk1.1 hk1.2 ks.length 0 p.start 0 [] (by omega) rfl hp1.1.1 (by omega) (by omega) (by omega)) (by simp) (by simp) ?_
  intro x e σ' hh
  simp only [List.drop_zero, Int.zero_add, List.nil_append] at hh
  cases hI : folIs p p.l ks p.start
  · simp only [hI, Bool.false_eq_true, if_false] at hh
    obtain ⟨rfl, g4, g5, g6, s, rfl⟩ := hh
    simp [g4, g5, g6]
  · simp only [hI, if_true] at hh
    obtain ⟨rfl, g7, g9, rfl⟩ := hh
    have ho := out_at (σ := σ) (n := 15) (f := intE) (w := 1) (by decide) (fun _ => rfl) (fun x => by simp) (l := folCaps p p.l ks p.start) (j := 0) (v := ks.length) (bs := [.cells ks.length ((folCaps p p.l ks p.start).flatMap intE)]) hσ rfl
    generalize folCaps p p.l ks p.start = cs at *
    simp [-List.length_flatMap, -List.map_take, e_ref11_Outlook_r13, g7, g9]
    rw [frz_tup (by simp) (by omega)]
    simp only [frzL_cons, frzL_nil]
    rw [ho]
    simp
def shortR (p : Pg) : Int := match shortL p p.l p.start with | none => -1 | some k => k
end Go.Proofs.YtcccafphhmcifaaGreat
