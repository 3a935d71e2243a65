/-
  Programmes of layer 11: plans followed, outlooks, of the program and by the document's words.
-/
import Derived.Test.YtcccafphhmcifaaGreatE6
set_option linter.unusedVariables false
set_option linter.unusedSimpArgs false
namespace Go.Proofs.YtcccafphhmcifaaGreat
open Go Go.Abs Go.Lease
variable {σ : Stack}

theorem C_planned1 {p : Pg} {k : Int} : lim T (.call false i_lease_Programme_planned_1 [.int .i64 k, .cref p.enc] σ) = some (.val (.bool (inn k 0 p.most)) σ) := by
  refine call_of T_lease_Programme_planned_1 e_lease_Programme_planned_1 rfl ?_
  simp [-List.length_flatMap, -List.map_take, e_lease_Programme_planned_1_r0, e_lease_Programme_planned_1_r1, D_within]
theorem C_planned {p : Pg} {ks : List Int} (hk : ks.length ≤ 1000000) : lim T (.call false i_lease_Programme_planned [.agg [.int .i64 p.start, .int .i64 p.gain, .int .i64 p.keep, .int .i64 p.most, .lst p.l.length (p.l.flatMap Yr.enc)], .lst ks.length (ks.flatMap intE)] σ) = some (.val (.bool (planOk p ks)) σ) := by
  refine call_of T_lease_Programme_planned e_lease_Programme_planned rfl ?_
  have hA := fun σ => D_allint (σ := σ) (l := ks) (p := fun k => inn k 0 p.most) (fv := .fn i_lease_Programme_planned_1 [] [.cref p.enc]) (by omega) (.fn fun k _ σ => C_planned1) rfl
  simp only [Pg.enc] at hA
  by_cases h1 : ks.length = p.l.length
  · have h2 : planOk p ks = allB ks (fun k => inn k 0 p.most) := by simp [planOk, numOk, h1]
    rw [h2]
    have h1' : ((ks.length : Int) == p.l.length) = true := by simp [h1]
    simp [-List.length_flatMap, -List.map_take, e_lease_Programme_planned_r0, e_lease_Programme_planned_r1, h1', hA]
  · have h1' : ¬ (ks.length : Int) = p.l.length := by omega
    have h2 : planOk p ks = false := by simp [planOk, h1]
    rw [h2]
    simp [-List.length_flatMap, -List.map_take, e_lease_Programme_planned_r0, e_lease_Programme_planned_r1, h1, h1']

/-! ### A plan followed -/

theorem L_follow {p : Pg} (hp : pgOk p = true) {ks : List Int} (hks : ks.length = p.l.length) (hk : ∀ k ∈ ks, 0 ≤ k ∧ k ≤ p.most) {g : Nat} {cap : List D} {St : List Int → Stack}
    (hf : ∀ (acc : List Int) (c : Int), acc.length ≤ 100 → lim T (.call false g ([.int .i64 c] ++ cap) ([] :: St acc)) = some (.val (.tup []) ([] :: St (acc ++ [c])))) : ∀ (m i : Nat) (now cost : Int) (acc : List Int), i + m = ks.length → acc.length ≤ i → 0 ≤ now → now ≤ 1000000 + 3000000 * i → 0 ≤ cost → cost ≤ 3000000 * i →
    WL T [2, 3, 6, 8, 14, 15, 16] false f_lease_Programme_follow_l12 [(2, .fn g [] cap), (3, .cref p.enc), (6, .int .i64 cost), (8, .int .i64 now), (14, .lst ks.length (ks.flatMap intE)), (15, .int .i64 ks.length), (16, .int .i64 i)] ([] :: St acc)
      (fun x e σ' => if folIs p (p.l.drop i) (ks.drop i) now then x = .exit 0 ∧ get e 6 = .int .i64 (cost + folCost p (p.l.drop i) (ks.drop i) now) ∧ σ' = [] :: St (acc ++ folCaps p (p.l.drop i) (ks.drop i) now)
        else x = .ret ∧ get e 6 = .int .i64 0 ∧ get e 7 = .bool false ∧ ∃ acc', σ' = [] :: St acc')
  | 0, i, now, cost, acc, hi, ha, h0, h1, c0, c1 => by
    refine WL_step e_lease_Programme_follow_l12 ?_
    have g1 : ¬ i < ks.length := by omega
    have g2 : ks.drop i = [] := List.drop_eq_nil_of_le (by omega)
    have g3 : p.l.drop i = [] := List.drop_eq_nil_of_le (by omega)
    rw [g2, g3]
    simp [-List.length_flatMap, -List.map_take, e_lease_Programme_follow_r0, e_lease_Programme_follow_r1, e_lease_Programme_follow_r2, e_lease_Programme_follow_r3, e_lease_Programme_follow_r4, e_lease_Programme_follow_r5, e_lease_Programme_follow_r6, e_lease_Programme_follow_r7, e_lease_Programme_follow_r8, e_lease_Programme_follow_r9, e_lease_Programme_follow_r10, e_lease_Programme_follow_r11, e_lease_Programme_follow_r13, g1, folIs, folCost, folCaps]
  | m + 1, i, now, cost, acc, hi, ha, h0, h1, c0, c1 => by
    refine WL_step e_lease_Programme_follow_l12 ?_
    have hp1 := pgOk_iff.1 hp
    have g1 : i < ks.length := by omega
    have g1' : i < p.l.length := by omega
    obtain ⟨k, hx⟩ : ∃ x, ks[i]? = some x := ⟨_, List.getElem?_eq_getElem g1⟩
    obtain ⟨y, hy⟩ : ∃ x, p.l[i]? = some x := ⟨_, List.getElem?_eq_getElem g1'⟩
    have hyk := hp1.2.2.2.2.2 y (List.mem_of_getElem? hy)
    have hkk := hk k (List.mem_of_getElem? hx)
    have hk3 : 0 ≤ k ∧ k ≤ 3 := by omega
    have hM := fun σ => C_meets (σ := σ) hp hy (c := now) (k := k) (by omega) hk3
    have hC := fun σ => C_cost (σ := σ) hyk hk3
    have hA := fun σ => C_after (σ := σ) hp (c := now) (k := k) (by omega) hk3
    have haf := aft_le hp h0 (j := k) hkk.1 hkk.2
    have hg := gain_bd hp hk3
    have hpr := price_bd hk3 (yrOk_iff.1 hyk).2
    have a1 := int_at hx
    have a2 := yr_at hy
    have w1 := wnext g1 (by omega)
    have w2 := w64 (n := k * p.gain) (by omega)
    have w3 := w64 (n := now + k * p.gain) (by omega)
    have w4 := w64 (n := cost + k * y.price) (by omega)
    have hF := hf acc (now + k * p.gain) (by omega)
    have ih := L_follow hp hks hk hf m (i + 1) (aft p now k) (cost + k * y.price) (acc ++ [now + k * p.gain]) (by omega) (by simp; omega) haf.1 (by omega) (by omega) (by omega)
    rw [dropS hx, dropS hy]
    simp only [List.singleton_append] at hF
    by_cases hn : y.need ≤ now + k * p.gain
    · simp [-List.length_flatMap, -List.map_take, e_lease_Programme_follow_r0, e_lease_Programme_follow_r1, e_lease_Programme_follow_r2, e_lease_Programme_follow_r3, e_lease_Programme_follow_r4, e_lease_Programme_follow_r5, e_lease_Programme_follow_r6, e_lease_Programme_follow_r7, e_lease_Programme_follow_r8, e_lease_Programme_follow_r9, e_lease_Programme_follow_r10, e_lease_Programme_follow_r11, e_lease_Programme_follow_r13, g1, g1', a1, a2, hM, hC, hA, hn, w1, w2, w3, w4, hF]
      refine WL.to ih (by simp) rfl fun x e σ hh => ?_
      simp only [folIs, hn, decide_true, Bool.true_and, folCost, folCaps] at hh ⊢
      simpa [Int.add_assoc, List.append_assoc] using hh
    · simp [-List.length_flatMap, -List.map_take, e_lease_Programme_follow_r0, e_lease_Programme_follow_r1, e_lease_Programme_follow_r2, e_lease_Programme_follow_r3, e_lease_Programme_follow_r4, e_lease_Programme_follow_r5, e_lease_Programme_follow_r6, e_lease_Programme_follow_r7, e_lease_Programme_follow_r8, e_lease_Programme_follow_r9, e_lease_Programme_follow_r10, e_lease_Programme_follow_r11, e_lease_Programme_follow_r13, g1, g1', a1, a2, hM, hn, w1, w2, w3]
      simp [folIs, hn]
      exact ⟨acc, rfl⟩
theorem C_follow {p : Pg} (hp : pgOk p = true) {ks : List Int} (hk : planOk p ks = true) {g : Nat} {cap : List D} (hcap : cap = [] ∨ ∃ l, cap = [.ref l 1 0 0]) {St : List Int → Stack} {n : Nat} (hn : ∀ acc, (St acc).length = n)
    (hf : ∀ (acc : List Int) (c : Int), acc.length ≤ 100 → lim T (.call false g ([.int .i64 c] ++ cap) ([] :: St acc)) = some (.val (.tup []) ([] :: St (acc ++ [c])))) :
    if folIs p p.l ks p.start then lim T (.call false i_lease_Programme_follow [.agg [.int .i64 p.start, .int .i64 p.gain, .int .i64 p.keep, .int .i64 p.most, .lst p.l.length (p.l.flatMap Yr.enc)], .lst ks.length (ks.flatMap intE), .fn g [] cap] (St [])) = some (.val (.tup [.int .i64 (folCost p p.l ks p.start), .bool true]) (St (folCaps p p.l ks p.start)))
    else ∃ acc, lim T (.call false i_lease_Programme_follow [.agg [.int .i64 p.start, .int .i64 p.gain, .int .i64 p.keep, .int .i64 p.most, .lst p.l.length (p.l.flatMap Yr.enc)], .lst ks.length (ks.flatMap intE), .fn g [] cap] (St [])) = some (.val (.tup [.int .i64 0, .bool false]) (St acc)) := by
  have hp1 := pgOk_iff.1 hp
  have hk1 := planOk_iff.1 hk
  have hL := L_follow hp hk1.1 hk1.2 hf ks.length 0 p.start 0 [] (by omega) (by simp) hp1.1.1 (by omega) (by omega) (by omega)
  obtain ⟨x, e', σ', hl, hh⟩ := hL
  simp only [List.drop_zero, Int.zero_add, List.nil_append] at hh
  cases hI : folIs p p.l ks p.start
  · simp only [hI, Bool.false_eq_true, if_false] at hh ⊢
    obtain ⟨rfl, g6, g7, acc', rfl⟩ := hh
    refine ⟨acc', call_to T_lease_Programme_follow e_lease_Programme_follow rfl (by rw [hn, hn]) ?_⟩
    simp [-List.length_flatMap, -List.map_take, e_lease_Programme_follow_r0, e_lease_Programme_follow_r1, e_lease_Programme_follow_r2, e_lease_Programme_follow_r3, e_lease_Programme_follow_r4, e_lease_Programme_follow_r5, e_lease_Programme_follow_r6, e_lease_Programme_follow_r7, e_lease_Programme_follow_r8, e_lease_Programme_follow_r9, e_lease_Programme_follow_r10, e_lease_Programme_follow_r11, e_lease_Programme_follow_r13]
    refine ⟨_, _, _, hl, ?_⟩
    simp [g6, g7]
  · simp only [hI, if_true] at hh ⊢
    obtain ⟨rfl, g6, rfl⟩ := hh
    refine call_to T_lease_Programme_follow e_lease_Programme_follow rfl (by rw [hn, hn]) ?_
    simp [-List.length_flatMap, -List.map_take, e_lease_Programme_follow_r0, e_lease_Programme_follow_r1, e_lease_Programme_follow_r2, e_lease_Programme_follow_r3, e_lease_Programme_follow_r4, e_lease_Programme_follow_r5, e_lease_Programme_follow_r6, e_lease_Programme_follow_r7, e_lease_Programme_follow_r8, e_lease_Programme_follow_r9, e_lease_Programme_follow_r10, e_lease_Programme_follow_r11, e_lease_Programme_follow_r13]
    refine ⟨_, _, _, hl, ?_⟩
    simp [-List.length_flatMap, -List.map_take, e_lease_Programme_follow_r13, g6]
end Go.Proofs.YtcccafphhmcifaaGreat
