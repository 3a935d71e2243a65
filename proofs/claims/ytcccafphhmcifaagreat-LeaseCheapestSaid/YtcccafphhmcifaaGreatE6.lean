/-
  Programmes of layer 11: the law's copy, the document's words (what is valid, the least cost), the year that is short.
-/
import Derived.Test.YtcccafphhmcifaaGreatE5
import Derived.Test.YtcccafphhmcifaaGreatTremTyK
set_option linter.unusedVariables false
set_option linter.unusedSimpArgs false
namespace Go.Proofs.YtcccafphhmcifaaGreat
open Go Go.Abs Go.Lease
variable {σ : Stack}

theorem L_Pg {p : Pg} (hl : p.l.length ≤ 100000) : ∀ (m j v : Nat), j + m = p.l.length →
    WL T [1, 2, 3, 4] false f_law11_Programme_l6 [(1, .cref p.enc), (2, .own 0 [.int .i64 0, .int .i64 0, .int .i64 0, .int .i64 0, .nils]), (3, .own 0 [.int .i64 p.start, .int .i64 p.gain, .int .i64 p.keep, .int .i64 p.most, .sl σ.length 0 v 0 j 2]), (4, .int .i64 j)]
      ([.cells v ((p.l.take j).flatMap Yr.enc)] :: σ)
      (fun x e σ' => ∃ v', x = .exit 0 ∧ get e 2 = .own 0 [.int .i64 0, .int .i64 0, .int .i64 0, .int .i64 0, .nils] ∧ get e 3 = .own 0 [.int .i64 p.start, .int .i64 p.gain, .int .i64 p.keep, .int .i64 p.most, .sl σ.length 0 v' 0 p.l.length 2] ∧ σ' = [.cells v' (p.l.flatMap Yr.enc)] :: σ)
  | 0, j, v, hi => by
    refine WL_step e_law11_Programme_l6 ?_
    have h4 : j = p.l.length := by omega
    subst h4
    simp [-List.length_flatMap, -List.map_take, e_law11_Programme_r0, e_law11_Programme_r1, e_law11_Programme_r2, e_law11_Programme_r3, e_law11_Programme_r4, e_law11_Programme_r5, e_law11_Programme_r7]
  | m + 1, j, v, hi => by
    refine WL_step e_law11_Programme_l6 ?_
    have h1 : j < p.l.length := by omega
    obtain ⟨x, hx⟩ : ∃ x, p.l[j]? = some x := ⟨_, List.getElem?_eq_getElem h1⟩
    have h2 : (p.l.flatMap Yr.enc).drop (j * 2) = .int .i64 x.need :: .int .i64 x.price :: (p.l.flatMap Yr.enc).drop (j * 2 + 2) := by
      have := k_drop (f := Yr.enc) (w := 2) (fun _ => rfl) hx
      simpa using this
    have h3 := flat_take (f := Yr.enc) (w := 2) (fun _ => rfl) (Nat.le_of_lt h1)
    have h4 := flat_snoc (f := Yr.enc) hx
    have h5 := flat_len (f := Yr.enc) (w := 2) (fun _ => rfl) (p.l.take j)
    have h6 := wnext h1 (by omega)
    have h7 : (j + 1) * 16 ≤ room := by unfold room; omega
    have h8 : min j p.l.length = j := by omega
    have ih := L_Pg hl m (j + 1) (v + 1) (by omega)
    simp [-List.length_flatMap, -List.map_take, e_law11_Programme_r0, e_law11_Programme_r1, e_law11_Programme_r2, e_law11_Programme_r3, e_law11_Programme_r4, e_law11_Programme_r5, e_law11_Programme_r7, h1, h2, h3, h5, h6, h7, h8]
    refine WL.to ih (by simp) (by simp [← h4]) fun x e σ hh => hh
theorem C_Pg {p : Pg} (hl : p.l.length ≤ 100000) (hσ : σ ≠ []) : lim T (.call false i_law11_Programme [.agg [.int .i64 p.start, .int .i64 p.gain, .int .i64 p.keep, .int .i64 p.most, .lst p.l.length (p.l.flatMap Yr.enc)]] σ) = some (.val (.agg [.int .i64 p.start, .int .i64 p.gain, .int .i64 p.keep, .int .i64 p.most, .lst p.l.length (p.l.flatMap Yr.enc)]) σ) := by
  refine call_of T_law11_Programme e_law11_Programme rfl ?_
  simp [-List.length_flatMap, -List.map_take, e_law11_Programme_r0, e_law11_Programme_r1, e_law11_Programme_r2, e_law11_Programme_r3, e_law11_Programme_r4, e_law11_Programme_r5, e_law11_Programme_r7]
  refine WL.to (L_Pg (σ := σ) hl p.l.length 0 0 (by omega)) (by simp) (by simp) ?_
  rintro x e σ' ⟨v', rfl, g2, g3, rfl⟩
  simp [-List.length_flatMap, -List.map_take, e_law11_Programme_r7, g2, g3]
  have h3 : ¬ σ.length ≤ σ.length - 1 := by have := List.length_pos_iff.2 hσ; omega
  have h6 := k_self (f := Yr.enc) (w := 2) (fun _ => rfl) p.l
  rw [frz_agg (by simp) (by omega)]
  simp only [frzL_cons, frzL_nil]
  rw [frz_sl h3 (cs := p.l.flatMap Yr.enc) (by simp) (by omega)]
  simp [h6]
theorem L_RPg {p : Pg} (hl : p.l.length ≤ 100000) : ∀ (m i : Nat), i + m = p.l.length →
    WL T [1, 3] false f_ref11_RightProgramme_l8 [(1, .cref p.enc), (3, .int .i64 i)] σ
      (fun x e σ' => σ' = σ ∧ if allB (p.l.drop i) yrOk then x = .exit 0 else x = .ret ∧ get e 2 = .bool false)
  | 0, i, hi => by
    refine WL_step e_ref11_RightProgramme_l8 ?_
    have h1 : ¬ i < p.l.length := by omega
    have h2 : p.l.drop i = [] := List.drop_eq_nil_of_le (by omega)
    rw [h2]
    simp [-List.length_flatMap, -List.map_take, e_ref11_RightProgramme_r0, e_ref11_RightProgramme_r1, e_ref11_RightProgramme_r2, e_ref11_RightProgramme_r3, e_ref11_RightProgramme_r4, e_ref11_RightProgramme_r5, e_ref11_RightProgramme_r6, e_ref11_RightProgramme_r7, e_ref11_RightProgramme_r9, h1, allB_nil]
  | m + 1, i, hi => by
    refine WL_step e_ref11_RightProgramme_l8 ?_
    have h1 : i < p.l.length := by omega
    obtain ⟨y, hx⟩ : ∃ x, p.l[i]? = some x := ⟨_, List.getElem?_eq_getElem h1⟩
    have a1 := yr_at hx
    have w1 := wnext h1 (by omega)
    have ih := L_RPg hl m (i + 1) (by omega)
    rw [dropS hx, allB_cons]
    generalize hG : allB (p.l.drop (i + 1)) yrOk = G at *
    cases c1 : inn y.need 0 30000000
    · simp [-List.length_flatMap, -List.map_take, e_ref11_RightProgramme_r0, e_ref11_RightProgramme_r1, e_ref11_RightProgramme_r2, e_ref11_RightProgramme_r3, e_ref11_RightProgramme_r4, e_ref11_RightProgramme_r5, e_ref11_RightProgramme_r6, e_ref11_RightProgramme_r7, e_ref11_RightProgramme_r9, h1, a1, w1, D_In, c1, yrOk]
    cases c2 : inn y.price 0 1000000
    · simp [-List.length_flatMap, -List.map_take, e_ref11_RightProgramme_r0, e_ref11_RightProgramme_r1, e_ref11_RightProgramme_r2, e_ref11_RightProgramme_r3, e_ref11_RightProgramme_r4, e_ref11_RightProgramme_r5, e_ref11_RightProgramme_r6, e_ref11_RightProgramme_r7, e_ref11_RightProgramme_r9, h1, a1, w1, D_In, c1, c2, yrOk]
    simp [-List.length_flatMap, -List.map_take, e_ref11_RightProgramme_r0, e_ref11_RightProgramme_r1, e_ref11_RightProgramme_r2, e_ref11_RightProgramme_r3, e_ref11_RightProgramme_r4, e_ref11_RightProgramme_r5, e_ref11_RightProgramme_r6, e_ref11_RightProgramme_r7, e_ref11_RightProgramme_r9, h1, a1, w1, D_In, c1, c2, yrOk]
    exact WL.to ih (by simp) rfl fun x e σ hh => by simpa [yrOk, c1, c2] using hh
theorem C_RPg {p : Pg} : lim T (.call false i_ref11_RightProgramme [.agg [.int .i64 p.start, .int .i64 p.gain, .int .i64 p.keep, .int .i64 p.most, .lst p.l.length (p.l.flatMap Yr.enc)]] σ) = some (.val (.bool (pgOk p)) σ) := by
  refine call_of T_ref11_RightProgramme e_ref11_RightProgramme rfl ?_
  cases h1 : inn p.start 0 1000000
  · simp [-List.length_flatMap, -List.map_take, e_ref11_RightProgramme_r0, e_ref11_RightProgramme_r1, e_ref11_RightProgramme_r2, e_ref11_RightProgramme_r3, e_ref11_RightProgramme_r4, e_ref11_RightProgramme_r5, e_ref11_RightProgramme_r6, e_ref11_RightProgramme_r7, e_ref11_RightProgramme_r9, D_In, h1, pgOk]
  cases h2 : inn p.gain 1 1000000
  · simp [-List.length_flatMap, -List.map_take, e_ref11_RightProgramme_r0, e_ref11_RightProgramme_r1, e_ref11_RightProgramme_r2, e_ref11_RightProgramme_r3, e_ref11_RightProgramme_r4, e_ref11_RightProgramme_r5, e_ref11_RightProgramme_r6, e_ref11_RightProgramme_r7, e_ref11_RightProgramme_r9, D_In, h1, h2, pgOk]
  cases h3 : inn p.keep 0 1000
  · simp [-List.length_flatMap, -List.map_take, e_ref11_RightProgramme_r0, e_ref11_RightProgramme_r1, e_ref11_RightProgramme_r2, e_ref11_RightProgramme_r3, e_ref11_RightProgramme_r4, e_ref11_RightProgramme_r5, e_ref11_RightProgramme_r6, e_ref11_RightProgramme_r7, e_ref11_RightProgramme_r9, D_In, h1, h2, h3, pgOk]
  cases h4 : inn p.most 0 3
  · simp [-List.length_flatMap, -List.map_take, e_ref11_RightProgramme_r0, e_ref11_RightProgramme_r1, e_ref11_RightProgramme_r2, e_ref11_RightProgramme_r3, e_ref11_RightProgramme_r4, e_ref11_RightProgramme_r5, e_ref11_RightProgramme_r6, e_ref11_RightProgramme_r7, e_ref11_RightProgramme_r9, D_In, h1, h2, h3, h4, pgOk]
  cases h5 : inn p.l.length 1 8
  · simp [-List.length_flatMap, -List.map_take, e_ref11_RightProgramme_r0, e_ref11_RightProgramme_r1, e_ref11_RightProgramme_r2, e_ref11_RightProgramme_r3, e_ref11_RightProgramme_r4, e_ref11_RightProgramme_r5, e_ref11_RightProgramme_r6, e_ref11_RightProgramme_r7, e_ref11_RightProgramme_r9, D_In, h1, h2, h3, h4, h5, pgOk]
  simp [-List.length_flatMap, -List.map_take, e_ref11_RightProgramme_r0, e_ref11_RightProgramme_r1, e_ref11_RightProgramme_r2, e_ref11_RightProgramme_r3, e_ref11_RightProgramme_r4, e_ref11_RightProgramme_r5, e_ref11_RightProgramme_r6, e_ref11_RightProgramme_r7, e_ref11_RightProgramme_r9, D_In, h1, h2, h3, h4, h5]
  have hl : p.l.length ≤ 100000 := by have := inn_iff.1 h5; omega
  refine WL.to (L_RPg (σ := [] :: σ) hl p.l.length 0 (by omega)) (by simp) rfl ?_
  rintro x e σ' ⟨rfl, hh⟩
  rw [List.drop_zero] at hh
  cases hg : allB p.l yrOk
  · rw [hg] at hh
    simp only [Bool.false_eq_true, if_false] at hh
    obtain ⟨rfl, g2⟩ := hh
    simp [g2, pgOk, h1, h2, h3, h4, h5, hg]
  · rw [hg] at hh
    simp only [if_true] at hh
    subst hh
    simp [-List.length_flatMap, -List.map_take, e_ref11_RightProgramme_r9, pgOk, h1, h2, h3, h4, h5, hg]

/-! ### The least cost by the document's words -/

theorem L_LeastR {p : Pg} (hp : pgOk p = true) {i : Nat} {y : Yr} (hy : p.l[i]? = some y) {c : Int} (hc : 0 ≤ c ∧ c ≤ 500000000) (H : ∀ k : Int, 0 ≤ k → k ≤ p.most → ∀ σ, lim T (.call false i_ref11_Least [.agg [.int .i64 p.start, .int .i64 p.gain, .int .i64 p.keep, .int .i64 p.most, .lst p.l.length (p.l.flatMap Yr.enc)], .int .i64 ((i + 1 : Nat) : Int), .int .i64 (aft p c k)] σ) = some (.val (.int .i64 (leastF p (p.l.drop (i + 1)) (aft p c k))) σ)) : ∀ (m k : Nat) (best : Int), (k : Int) + m = p.most + 1 → 0 ≤ best → best ≤ never →
    WL T [1, 2, 3, 7, 8] false f_ref11_Least_l10 [(1, .int .i64 i), (2, .int .i64 c), (3, .cref p.enc), (7, .int .i64 best), (8, .int .i64 k)] σ
      (fun x e σ' => σ' = σ ∧ x = .exit 0 ∧ get e 7 = .int .i64 (leastK p y (leastF p (p.l.drop (i + 1))) c m k best))
  | 0, k, best, hk, b0, b1 => by
    refine WL_step e_ref11_Least_l10 ?_
    have h1 : ¬ (k : Int) ≤ p.most := by omega
    simp [-List.length_flatMap, -List.map_take, e_ref11_Least_r0, e_ref11_Least_r1, e_ref11_Least_r2, e_ref11_Least_r3, e_ref11_Least_r4, e_ref11_Least_r5, e_ref11_Least_r6, e_ref11_Least_r7, e_ref11_Least_r8, e_ref11_Least_r9, e_ref11_Least_r11, h1, leastK]
  | m + 1, k, best, hk, b0, b1 => by
    refine WL_step e_ref11_Least_l10 ?_
    have hp1 := pgOk_iff.1 hp
    have h1 : (k : Int) ≤ p.most := by omega
    have hi := (List.getElem?_eq_some_iff.1 hy).1
    have hyk := hp1.2.2.2.2.2 y (List.mem_of_getElem? hy)
    have hk3 : 0 ≤ (k : Int) ∧ (k : Int) ≤ 3 := by omega
    have hg := gain_bd hp hk3
    have a1 := yr_at hy
    have hys : ∀ z ∈ p.l.drop (i + 1), yrOk z = true := fun z hz => hp1.2.2.2.2.2 z (List.mem_of_mem_drop hz)
    have hb0 := leastF_nonneg hp1.2.2.2.1.1 (p.l.drop (i + 1)) hys (aft p c k)
    have hb1 := leastF_le (p := p) (p.l.drop (i + 1)) (aft p c k)
    simp only [never] at hb1
    have hpr := price_bd hk3 (yrOk_iff.1 hyk).2
    have m0 : 0 ≤ (c + k * p.gain) * p.keep := Int.mul_nonneg (by omega) hp1.2.2.1.1
    have m1 : (c + k * p.gain) * p.keep ≤ 503000000 * 1000 := Int.le_trans (Int.mul_le_mul_of_nonneg_right (by omega) hp1.2.2.1.1) (Int.mul_le_mul_of_nonneg_left hp1.2.2.1.2 (by decide))
    have w1 := w64 (n := (k : Int) + 1) (by omega)
    have w2 := w64 (n := (k : Int) * p.gain) (by omega)
    have w3 := w64 (n := c + (k : Int) * p.gain) (by omega)
    have w4 := w64 (n := (k : Int) * y.price) (by omega)
    have w5 := w64 (n := (c + k * p.gain) * p.keep) (by omega)
    have w6 : ((c + k * p.gain) * p.keep).tdiv 1000 = aft p c k := Int.tdiv_eq_ediv_of_nonneg m0
    have w7 := w64 (n := aft p c k) (by unfold aft; omega)
    have w8 := w64 (n := (k : Int) * y.price + leastF p (p.l.drop (i + 1)) (aft p c k)) (by omega)
    have w9 : IntKind.i64.wrap ((i : Int) + 1) = ((i + 1 : Nat) : Int) := wnext hi (by omega)
    have hH := H k hk3.1 h1
    rw [show (((i + 1 : Nat)) : Int) = (i : Int) + 1 by omega] at hH
    have ht := tryK_bd (p := p) (y := y) (g := leastF p (p.l.drop (i + 1))) (c := c) (k := k) ⟨b0, b1⟩ hk3.1 (yrOk_iff.1 hyk).2.1 hb0
    have ih := L_LeastR hp hy hc H m (k + 1) (tryK p y (leastF p (p.l.drop (i + 1))) c best k) (by omega) ht.1 ht.2
    rw [leastK]
    by_cases hn : y.need ≤ c + k * p.gain
    · have hT : tryK p y (leastF p (p.l.drop (i + 1))) c best k = min best (k * y.price + leastF p (p.l.drop (i + 1)) (aft p c k)) := by unfold tryK; rw [if_pos hn]
      rw [hT] at ih ⊢
      generalize leastF p (p.l.drop (i + 1)) (aft p c k) = nx at *
      simp [-List.length_flatMap, -List.map_take, e_ref11_Least_r0, e_ref11_Least_r1, e_ref11_Least_r2, e_ref11_Least_r3, e_ref11_Least_r4, e_ref11_Least_r5, e_ref11_Least_r6, e_ref11_Least_r7, e_ref11_Least_r8, e_ref11_Least_r9, e_ref11_Least_r11, h1, hi, a1, hn, w1, w2, w3, w4, w5, w6, w7, w8, w9, hH]
      exact WL.to ih (by simp) rfl fun x e σ hh => by simpa using hh
    · have hT : tryK p y (leastF p (p.l.drop (i + 1))) c best k = best := by unfold tryK; rw [if_neg hn]
      rw [hT] at ih ⊢
      simp [-List.length_flatMap, -List.map_take, e_ref11_Least_r0, e_ref11_Least_r1, e_ref11_Least_r2, e_ref11_Least_r3, e_ref11_Least_r4, e_ref11_Least_r5, e_ref11_Least_r6, e_ref11_Least_r7, e_ref11_Least_r8, e_ref11_Least_r9, e_ref11_Least_r11, h1, hi, a1, hn, w1, w2, w3]
      exact WL.to ih (by simp) rfl fun x e σ hh => by simpa using hh
theorem C_LeastR {p : Pg} (hp : pgOk p = true) : ∀ (m i : Nat) (c : Int) (σ : Stack), i + m = p.l.length → 0 ≤ c → c ≤ 100000000 + 3000000 * i →
    lim T (.call false i_ref11_Least [.agg [.int .i64 p.start, .int .i64 p.gain, .int .i64 p.keep, .int .i64 p.most, .lst p.l.length (p.l.flatMap Yr.enc)], .int .i64 i, .int .i64 c] σ) = some (.val (.int .i64 (leastF p (p.l.drop i) c)) σ)
  | 0, i, c, σ, hi, h0, h1 => by
    refine call_of T_ref11_Least e_ref11_Least rfl ?_
    have h4 : i = p.l.length := by omega
    subst h4
    rw [List.drop_length]
    simp [-List.length_flatMap, -List.map_take, e_ref11_Least_r0, e_ref11_Least_r1, e_ref11_Least_r2, e_ref11_Least_r3, e_ref11_Least_r4, e_ref11_Least_r5, e_ref11_Least_r6, e_ref11_Least_r7, e_ref11_Least_r8, e_ref11_Least_r9, e_ref11_Least_r11, leastF]
  | m + 1, i, c, σ, hi, h0, h1 => by
    refine call_of T_ref11_Least e_ref11_Least rfl ?_
    have hp1 := pgOk_iff.1 hp
    have h4 : ¬ i = p.l.length := by omega
    have h5 : i < p.l.length := by omega
    obtain ⟨y, hy⟩ : ∃ x, p.l[i]? = some x := ⟨_, List.getElem?_eq_getElem h5⟩
    have H : ∀ k : Int, 0 ≤ k → k ≤ p.most → ∀ σ, lim T (.call false i_ref11_Least [.agg [.int .i64 p.start, .int .i64 p.gain, .int .i64 p.keep, .int .i64 p.most, .lst p.l.length (p.l.flatMap Yr.enc)], .int .i64 ((i + 1 : Nat) : Int), .int .i64 (aft p c k)] σ) = some (.val (.int .i64 (leastF p (p.l.drop (i + 1)) (aft p c k))) σ) := fun k k0 k1 σ => by
      have ha := aft_le hp h0 k0 k1
      exact C_LeastR hp m (i + 1) _ σ (by omega) ha.1 (by omega)
    have h4' : ¬ (i : Int) = p.l.length := by omega
    simp [-List.length_flatMap, -List.map_take, e_ref11_Least_r0, e_ref11_Least_r1, e_ref11_Least_r2, e_ref11_Least_r3, e_ref11_Least_r4, e_ref11_Least_r5, e_ref11_Least_r6, e_ref11_Least_r7, e_ref11_Least_r8, e_ref11_Least_r9, e_ref11_Least_r11, h4, h4']
    refine WL.to (L_LeastR (σ := [] :: σ) hp hy (by omega) H (p.most.toNat + 1) 0 never (by omega) (by decide) (by decide)) (by simp) rfl ?_
    rintro x e σ' ⟨rfl, rfl, g7⟩
    rw [dropS hy]
    simp [-List.length_flatMap, -List.map_take, e_ref11_Least_r11, g7, leastF, leastW]

/-! ### The year that is short -/

theorem L_Short {p : Pg} (hp : pgOk p = true) : ∀ (m i : Nat) (now : Int), i + m = p.l.length → 0 ≤ now → now ≤ 1000000 + 3000000 * i →
    WL T [1, 4, 13, 14] false f_lease_Short_l11 [(1, .cref p.enc), (4, .int .i64 now), (13, .int .i64 p.l.length), (14, .int .i64 i)] σ
      (fun x e σ' => σ' = σ ∧ match shortL p (p.l.drop i) now with
        | none => x = .exit 0
        | some k => x = .ret ∧ get e 2 = .int .i64 ((i + k : Nat) : Int) ∧ get e 3 = .int .i64 0)
  | 0, i, now, hi, h0, h1 => by
    refine WL_step e_lease_Short_l11 ?_
    have h4 : i = p.l.length := by omega
    subst h4
    rw [List.drop_length]
    simp [-List.length_flatMap, -List.map_take, e_lease_Short_r0, e_lease_Short_r1, e_lease_Short_r2, e_lease_Short_r3, e_lease_Short_r4, e_lease_Short_r5, e_lease_Short_r6, e_lease_Short_r7, e_lease_Short_r8, e_lease_Short_r9, e_lease_Short_r10, e_lease_Short_r12, shortL]
  | m + 1, i, now, hi, h0, h1 => by
    refine WL_step e_lease_Short_l11 ?_
    have hp1 := pgOk_iff.1 hp
    have h5 : i < p.l.length := by omega
    obtain ⟨y, hy⟩ : ∃ x, p.l[i]? = some x := ⟨_, List.getElem?_eq_getElem h5⟩
    have hM := fun σ => C_meets (σ := σ) hp hy (c := now) (k := p.most) (by omega) (by omega)
    have hA := fun σ => C_after (σ := σ) hp (c := now) (k := p.most) (by omega) (by omega)
    have ha := aft_le hp h0 (j := p.most) hp1.2.2.2.1.1 (Int.le_refl _)
    have w1 := wnext h5 (by omega)
    have ih := L_Short hp m (i + 1) (aft p now p.most) (by omega) ha.1 (by omega)
    rw [dropS hy]
    by_cases hn : y.need ≤ now + p.most * p.gain
    · have hs : shortL p (y :: p.l.drop (i + 1)) now = (shortL p (p.l.drop (i + 1)) (aft p now p.most)).map (· + 1) := by rw [shortL, if_pos hn]
      rw [hs]
      simp [-List.length_flatMap, -List.map_take, e_lease_Short_r0, e_lease_Short_r1, e_lease_Short_r2, e_lease_Short_r3, e_lease_Short_r4, e_lease_Short_r5, e_lease_Short_r6, e_lease_Short_r7, e_lease_Short_r8, e_lease_Short_r9, e_lease_Short_r10, e_lease_Short_r12, h5, hM, hn, hA, w1]
      refine WL.to ih (by simp) rfl fun x e σ hh => ?_
      cases hS : shortL p (p.l.drop (i + 1)) (aft p now p.most) with
      | none => rw [hS] at hh; simpa using hh
      | some k => rw [hS] at hh; simpa [Nat.add_assoc, Nat.add_comm 1 k, Int.add_assoc, Int.add_comm 1 (k : Int)] using hh
    · have hs : shortL p (y :: p.l.drop (i + 1)) now = some 0 := by rw [shortL, if_neg hn]
      rw [hs]
      simp [-List.length_flatMap, -List.map_take, e_lease_Short_r0, e_lease_Short_r1, e_lease_Short_r2, e_lease_Short_r3, e_lease_Short_r4, e_lease_Short_r5, e_lease_Short_r6, e_lease_Short_r7, e_lease_Short_r8, e_lease_Short_r9, e_lease_Short_r10, e_lease_Short_r12, h5, hM, hn]
def shortD (p : Pg) : D := if pgOk p then (match shortL p p.l p.start with | none => .tup [.int .i64 0, .int .i64 7] | some k => .tup [.int .i64 k, .int .i64 0]) else .tup [.int .i64 0, .int .i64 1]
theorem C_Short {p : Pg} (hl : p.l.length ≤ 1000000) : lim T (.call false i_lease_Short [.agg [.int .i64 p.start, .int .i64 p.gain, .int .i64 p.keep, .int .i64 p.most, .lst p.l.length (p.l.flatMap Yr.enc)]] σ) = some (.val (shortD p) σ) := by
  refine call_of T_lease_Short e_lease_Short rfl ?_
  have hV := fun σ => C_pvalid (σ := σ) hl
  unfold shortD
  cases h1 : pgOk p
  · simp [-List.length_flatMap, -List.map_take, e_lease_Short_r0, e_lease_Short_r1, e_lease_Short_r2, e_lease_Short_r3, e_lease_Short_r4, e_lease_Short_r5, e_lease_Short_r6, e_lease_Short_r7, e_lease_Short_r8, e_lease_Short_r9, e_lease_Short_r10, e_lease_Short_r12, hV, h1]
  have hp1 := pgOk_iff.1 h1
  simp [-List.length_flatMap, -List.map_take, e_lease_Short_r0, e_lease_Short_r1, e_lease_Short_r2, e_lease_Short_r3, e_lease_Short_r4, e_lease_Short_r5, e_lease_Short_r6, e_lease_Short_r7, e_lease_Short_r8, e_lease_Short_r9, e_lease_Short_r10, e_lease_Short_r12, hV, h1]
  refine WL.to (L_Short (σ := [] :: σ) h1 p.l.length 0 p.start (by omega) hp1.1.1 (by omega)) (by simp) rfl ?_
  rintro x e σ' ⟨rfl, hh⟩
  rw [List.drop_zero] at hh
  cases hS : shortL p p.l p.start with
  | none =>
    rw [hS] at hh
    subst hh
    simp [-List.length_flatMap, -List.map_take, e_lease_Short_r12]
  | some k =>
    rw [hS] at hh
    obtain ⟨rfl, g2, g3⟩ := hh
    simp [g2, g3]
theorem yr_of {ds : List D} (h : (Ty.struct [.int .i64, .int .i64]).has ds) : ∃ x : Yr, ds = x.enc ∧ True := by
  obtain ⟨_, _, rfl, ⟨f, rfl, _⟩, _, _, rfl, ⟨t, rfl, _⟩, rfl⟩ := h
  exact ⟨⟨f, t⟩, rfl, trivial⟩
theorem pg_of {d : D} (h : (Ty.struct [.int .i64, .int .i64, .int .i64, .int .i64, .slice 2 (.struct [.int .i64, .int .i64])]).hasV d) : ∃ p : Pg, d = .agg [.int .i64 p.start, .int .i64 p.gain, .int .i64 p.keep, .int .i64 p.most, .lst p.l.length (p.l.flatMap Yr.enc)] := by
  obtain ⟨cs, rfl, _, _, rfl, ⟨a, rfl, _⟩, _, _, rfl, ⟨b, rfl, _⟩, _, _, rfl, ⟨c, rfl, _⟩, _, _, rfl, ⟨e, rfl, _⟩, _, _, rfl, hs, rfl⟩ := h
  obtain ⟨x, hx⟩ := slice_one hs
  subst hx
  obtain ⟨l, rfl, _⟩ := rows_of (fun ds h => yr_of h) hs
  exact ⟨⟨a, b, c, e, l⟩, by simp⟩
end Go.Proofs.YtcccafphhmcifaaGreat
