/-
  The law TremorBets answers true.
-/
import Derived.Test.YticpenoicajakaaK12
import Derived.Test.YticpenoicajakaaTremTy
set_option linter.unusedVariables false
set_option linter.unusedSimpArgs false
namespace Go.Proofs.Yticpenoicajakaa
open Go Go.Abs Go.Trem
variable {σ : Stack}

def wins (b : Bet) (n : Int) : Bool := decide (1000000 * b.odds ≤ n)

theorem C_won1 {b : Bet} (hb : b.ok = true) {n : Int} : lim T (.call false i_tremor_Won_1 [.int .i64 n, .cref b.enc] σ) = some (.val (.bool (wins b n)) σ) := by
  refine call_of T_tremor_Won_1 e_tremor_Won_1 rfl ?_
  rw [bet_iff] at hb
  have hw := w64 (n := 1000000 * b.odds) (by omega)
  simp [-List.length_flatMap, -List.map_take, e_tremor_Won_1_r0, e_tremor_Won_1_r1, hw, wins]

theorem C_Won {b : Bet} {hits : List Bool} (hl : hits.length ≤ 9223372036854775807) (hσ : σ ≠ []) :
    lim T (.call false i_tremor_Won [.agg [.int .i64 b.num, .int .i64 b.den, .int .i64 b.a, .int .i64 b.b, .int .i64 b.odds], .lst hits.length (hits.flatMap boolE)] σ) =
      some (.val (if b.ok then (if 2000 < hits.length then .tup [.int .i64 0, .int .i64 3] else if 0 ≤ idxOf (wins b) (caps b 1000000 hits) then .tup [.int .i64 (idxOf (wins b) (caps b 1000000 hits)), .int .i64 0] else .tup [.int .i64 0, .int .i64 7]) else .tup [.int .i64 0, .int .i64 1]) σ) := by
  refine call_of T_tremor_Won e_tremor_Won rfl ?_
  have h1 := fun σ (hσ : σ ≠ []) => @C_Capital σ b hits hl hσ
  cases c1 : b.ok
  · simp only [c1, Bool.false_eq_true, if_false] at h1
    simp [-List.length_flatMap, -List.map_take, e_tremor_Won_r0, e_tremor_Won_r1, e_tremor_Won_r2, e_tremor_Won_r3, e_tremor_Won_r4, e_tremor_Won_r5, e_tremor_Won_r6, e_tremor_Won_r7, h1]
  by_cases c2 : 2000 < hits.length
  · simp only [c1, c2, if_true] at h1
    simp [-List.length_flatMap, -List.map_take, e_tremor_Won_r0, e_tremor_Won_r1, e_tremor_Won_r2, e_tremor_Won_r3, e_tremor_Won_r4, e_tremor_Won_r5, e_tremor_Won_r6, e_tremor_Won_r7, h1, c2]
  simp only [c1, c2, if_true, if_false] at h1
  have hcl := caps_len (b := b) hits 1000000
  have h2 : ∀ σ, lim T (.call false i_slices_IndexFunc_int [.lst (caps b 1000000 hits).length ((caps b 1000000 hits).flatMap intE), .fn i_tremor_Won_1 [] [.cref b.enc]] σ) = some (.val (.int .i64 (idxOf (wins b) (caps b 1000000 hits))) σ) := fun σ =>
    index_of (eltInt .i64) T_slices_IndexFunc_int (by omega) (.fn fun n _ σ => C_won1 c1)
  simp only [Bet.enc] at h2
  by_cases c3 : 0 ≤ idxOf (wins b) (caps b 1000000 hits)
  · simp [-List.length_flatMap, -List.map_take, e_tremor_Won_r0, e_tremor_Won_r1, e_tremor_Won_r2, e_tremor_Won_r3, e_tremor_Won_r4, e_tremor_Won_r5, e_tremor_Won_r6, e_tremor_Won_r7, h1, h2, c2, c3]
  · simp [-List.length_flatMap, -List.map_take, e_tremor_Won_r0, e_tremor_Won_r1, e_tremor_Won_r2, e_tremor_Won_r3, e_tremor_Won_r4, e_tremor_Won_r5, e_tremor_Won_r6, e_tremor_Won_r7, h1, h2, c2, c3]

theorem C_RightBet {n d a b o : Int} : lim T (.call false i_ref09_RightBet [.agg [.int .i64 n, .int .i64 d, .int .i64 a, .int .i64 b, .int .i64 o]] σ) = some (.val (.bool (Bet.ok ⟨n, d, a, b, o⟩)) σ) := by
  refine call_of T_ref09_RightBet e_ref09_RightBet rfl ?_
  have ho : Bet.ok ⟨n, d, a, b, o⟩ = (inn d 2 1000 && (inn n 1 (d - 1) && (inn b 1 1000 && (inn a 0 b && inn o 2 1000)))) := rfl
  cases c1 : inn d 2 1000
  · simp [-List.length_flatMap, -List.map_take, e_ref09_RightBet_r0, e_ref09_RightBet_r1, C_In, ho, c1]
  have c1' := inn_iff.1 c1
  have hw := w64 (n := d - 1) (by omega)
  cases c2 : inn n 1 (d - 1)
  · simp [-List.length_flatMap, -List.map_take, e_ref09_RightBet_r0, e_ref09_RightBet_r1, C_In, ho, c1, hw, c2]
  cases c3 : inn b 1 1000
  · simp [-List.length_flatMap, -List.map_take, e_ref09_RightBet_r0, e_ref09_RightBet_r1, C_In, ho, c1, hw, c2, c3]
  cases c4 : inn a 0 b
  · simp [-List.length_flatMap, -List.map_take, e_ref09_RightBet_r0, e_ref09_RightBet_r1, C_In, ho, c1, hw, c2, c3, c4]
  simp [-List.length_flatMap, -List.map_take, e_ref09_RightBet_r0, e_ref09_RightBet_r1, C_In, ho, c1, hw, c2, c3, c4]

theorem C_Next {b : Bet} (hb : b.ok = true) {c : Int} (h0 : 0 ≤ c) (h1 : c ≤ 1000000000000) {hit : Bool} :
    lim T (.call false i_ref09_Next [.agg [.int .i64 b.num, .int .i64 b.den, .int .i64 b.a, .int .i64 b.b, .int .i64 b.odds], .int .i64 c, .bool hit] σ) = some (.val (.int .i64 (next b c hit)) σ) := by
  refine call_of T_ref09_Next e_ref09_Next rfl ?_
  obtain ⟨w1, w2, w3, w4, w5, w6, w7, w8, w9, w10, w11, w12, w13⟩ := betW hb h0 h1
  cases hit
  · simp [-List.length_flatMap, -List.map_take, e_ref09_Next_r0, e_ref09_Next_r1, e_ref09_Next_r2, e_ref09_Next_r3, w8, w9, w10, w11, next]
  · simp [-List.length_flatMap, -List.map_take, e_ref09_Next_r0, e_ref09_Next_r1, e_ref09_Next_r2, e_ref09_Next_r3, w1, w2, w3, w4, w5, w6, w7, next, Int.min_comm]

theorem L_capR {b : Bet} (hb : b.ok = true) {hits : List Bool} (hl : hits.length ≤ 2000) : ∀ (m i : Nat) (acc : List Int) (c : Int), i + m = hits.length → acc.length = i → 0 ≤ c → c ≤ 1000000000000 →
    WL T [1, 2, 5, 6, 7] false f_ref09_Capital_l8 [(1, .lst hits.length (hits.flatMap boolE)), (2, .cref b.enc), (5, .sl σ.length 0 i 0 i 1), (6, .int .i64 c), (7, .int .i64 i)]
        ([.cells i (acc.flatMap intE)] :: σ)
      (fun x e σ' => x = .exit 0 ∧ get e 5 = .sl σ.length 0 hits.length 0 hits.length 1 ∧ σ' = [.cells hits.length ((acc ++ caps b c (hits.drop i)).flatMap intE)] :: σ)
  | 0, i, acc, c, hi, ha, _, _ => by
    refine WL_step e_ref09_Capital_l8 ?_
    have h1 : ¬ i < hits.length := by omega
    have h2 : hits.drop i = [] := by simp; omega
    have h3 : i = hits.length := by omega
    subst h3
    simp [-List.length_flatMap, -List.map_take, e_ref09_Capital_r0, e_ref09_Capital_r1, e_ref09_Capital_r2, e_ref09_Capital_r3, e_ref09_Capital_r4, e_ref09_Capital_r5, e_ref09_Capital_r6, e_ref09_Capital_r7, e_ref09_Capital_r9, caps]
  | m + 1, i, acc, c, hi, ha, h0, hc => by
    refine WL_step e_ref09_Capital_l8 ?_
    have h1 : i < hits.length := by omega
    obtain ⟨x, hx⟩ : ∃ x, hits[i]? = some x := ⟨_, List.getElem?_eq_getElem h1⟩
    have h2 := flat_at (f := boolE) (w := 1) (fun _ => rfl) hx
    simp only [Nat.mul_one] at h2
    have h4 := wnext h1 (by omega)
    have hn := (betW hb h0 hc).w12 x
    have ih := L_capR hb hl m (i + 1) (acc ++ [next b c x]) (next b c x) (by omega) (by simp [ha]) hn.1 hn.2
    have hg := fun σ => @C_Next σ b hb c h0 hc x
    have w3 := flat_self (f := intE) (w := 1) (fun _ => rfl) acc
    have w4 := flat_len (f := intE) (w := 1) (fun _ => rfl) acc
    rw [ha] at w3 w4
    simp only [Nat.mul_one] at w3 w4
    have w2 : (i + 1) * 8 ≤ room := by unfold room; omega
    simp [-List.length_flatMap, -List.map_take, e_ref09_Capital_r0, e_ref09_Capital_r1, e_ref09_Capital_r2, e_ref09_Capital_r3, e_ref09_Capital_r4, e_ref09_Capital_r5, e_ref09_Capital_r6, e_ref09_Capital_r7, e_ref09_Capital_r9, h1, h2, h4, hg, w2, w3, w4]
    refine WL.to ih (by simp) (by simp) fun x' e σ' hh => ?_
    rw [drop_at hx]
    simpa [caps, List.append_assoc] using hh

theorem C_CapitalR {b : Bet} (hb : b.ok = true) {hits : List Bool} (hl : hits.length ≤ 2000) (hσ : σ ≠ []) :
    lim T (.call false i_ref09_Capital [.agg [.int .i64 b.num, .int .i64 b.den, .int .i64 b.a, .int .i64 b.b, .int .i64 b.odds], .lst hits.length (hits.flatMap boolE)] σ) =
      some (.val (.lst (caps b 1000000 hits).length ((caps b 1000000 hits).flatMap intE)) σ) := by
  refine call_of T_ref09_Capital e_ref09_Capital rfl ?_
  simp [-List.length_flatMap, -List.map_take, e_ref09_Capital_r0, e_ref09_Capital_r1, e_ref09_Capital_r2, e_ref09_Capital_r3, e_ref09_Capital_r4, e_ref09_Capital_r5, e_ref09_Capital_r6, e_ref09_Capital_r7, e_ref09_Capital_r9]
  refine WL.to (L_capR (σ := σ) (hits := hits) hb hl hits.length 0 [] 1000000 (by omega) rfl (by omega) (by omega)) (by simp) (by simp) ?_
  rintro x e σ' ⟨rfl, h2, rfl⟩
  have hcl := caps_len (b := b) hits 1000000
  simp only [List.nil_append, List.drop_zero, ← hcl] at h2 ⊢
  simp [-List.length_flatMap, -List.map_take, h2, e_ref09_Capital_r9]
  rw [frz_out (f := intE) (fun _ => rfl) (fun x => by simp) hσ rfl]
  simp

theorem C_BetL {n d a b o : Int} : lim T (.call false i_law09_Bet [.agg [.int .i64 n, .int .i64 d, .int .i64 a, .int .i64 b, .int .i64 o]] σ) = some (.val (.agg [.int .i64 n, .int .i64 d, .int .i64 a, .int .i64 b, .int .i64 o]) σ) := by
  refine call_of T_law09_Bet e_law09_Bet rfl ?_
  simp [-List.length_flatMap, -List.map_take, e_law09_Bet_r0, e_law09_Bet_r1]

theorem idxOf_cons_neg {α : Type} {p : α → Bool} {x : α} {l : List α} (h : p x = false) : idxOf p (x :: l) = if idxOf p l < 0 then -1 else idxOf p l + 1 := by
  simp [idxOf, h]

theorem L_bets {b : Bet} (hb : b.ok = true) {all : List Int} (hl : all.length ≤ 2000) {n f : Int} (hσ : σ ≠ []) : ∀ (m i : Nat), i + m = all.length →
    (0 ≤ idxOf (wins b) (all.drop i) → n = i + idxOf (wins b) (all.drop i) ∧ f = 0) →
    WL T [2, 7, 8, 10, 11] false f_law09_TremorBets_l20 [(2, .cref b.enc), (7, .int .i64 n), (8, .int .i64 f), (10, .lst all.length (all.flatMap intE)), (11, .int .i64 i)] σ
      (fun x e σ' => σ' = σ ∧ if idxOf (wins b) (all.drop i) < 0 then x = .exit 0 ∧ get e 7 = .int .i64 n ∧ get e 8 = .int .i64 f else x = .ret ∧ get e 4 = .bool true)
  | 0, i, hi, _ => by
    refine WL_step e_law09_TremorBets_l20 ?_
    have h1 : ¬ i < all.length := by omega
    have h2 : all.drop i = [] := by simp; omega
    simp [-List.length_flatMap, -List.map_take, e_law09_TremorBets_r0, e_law09_TremorBets_r1, e_law09_TremorBets_r2, e_law09_TremorBets_r3, e_law09_TremorBets_r4, e_law09_TremorBets_r5, e_law09_TremorBets_r6, e_law09_TremorBets_r7, e_law09_TremorBets_r8, e_law09_TremorBets_r9, e_law09_TremorBets_r10, e_law09_TremorBets_r11, e_law09_TremorBets_r12, e_law09_TremorBets_r13, e_law09_TremorBets_r14, e_law09_TremorBets_r15, e_law09_TremorBets_r16, e_law09_TremorBets_r17, e_law09_TremorBets_r18, e_law09_TremorBets_r19, e_law09_TremorBets_r21, h1, h2, idxOf]
  | m + 1, i, hi, hn => by
    refine WL_step e_law09_TremorBets_l20 ?_
    have h1 : i < all.length := by omega
    obtain ⟨x, hx⟩ : ∃ x, all[i]? = some x := ⟨_, List.getElem?_eq_getElem h1⟩
    have h2 := flat_at (f := intE) (w := 1) (fun _ => rfl) hx
    simp only [Nat.mul_one] at h2
    have h4 := wnext h1 (by omega)
    have hb' := bet_iff.1 hb
    have hw := w64 (n := 1000000 * b.odds) (by omega)
    have hd := drop_at hx
    by_cases hc : 1000000 * b.odds ≤ x
    · have hi0 : idxOf (wins b) (all.drop i) = 0 := by rw [hd]; simp [idxOf, wins, hc]
      rw [hi0] at hn
      obtain ⟨rfl, rfl⟩ := hn (by omega)
      simp [-List.length_flatMap, -List.map_take, e_law09_TremorBets_r0, e_law09_TremorBets_r1, e_law09_TremorBets_r2, e_law09_TremorBets_r3, e_law09_TremorBets_r4, e_law09_TremorBets_r5, e_law09_TremorBets_r6, e_law09_TremorBets_r7, e_law09_TremorBets_r8, e_law09_TremorBets_r9, e_law09_TremorBets_r10, e_law09_TremorBets_r11, e_law09_TremorBets_r12, e_law09_TremorBets_r13, e_law09_TremorBets_r14, e_law09_TremorBets_r15, e_law09_TremorBets_r16, e_law09_TremorBets_r17, e_law09_TremorBets_r18, e_law09_TremorBets_r19, e_law09_TremorBets_r21, h1, h2, hw, hc, hi0, C_awake, hσ]
    · have hwx : wins b x = false := by simp [wins]; omega
      have hi0 : idxOf (wins b) (all.drop i) = if idxOf (wins b) (all.drop (i + 1)) < 0 then -1 else idxOf (wins b) (all.drop (i + 1)) + 1 := by rw [hd]; exact idxOf_cons_neg hwx
      have ih := L_bets hb hl hσ (n := n) (f := f) m (i + 1) (by omega) (fun h => by
        have := hn (by rw [hi0, if_neg (by omega)]; omega)
        rw [hi0, if_neg (by omega)] at this
        push_cast
        omega)
      simp [-List.length_flatMap, -List.map_take, e_law09_TremorBets_r0, e_law09_TremorBets_r1, e_law09_TremorBets_r2, e_law09_TremorBets_r3, e_law09_TremorBets_r4, e_law09_TremorBets_r5, e_law09_TremorBets_r6, e_law09_TremorBets_r7, e_law09_TremorBets_r8, e_law09_TremorBets_r9, e_law09_TremorBets_r10, e_law09_TremorBets_r11, e_law09_TremorBets_r12, e_law09_TremorBets_r13, e_law09_TremorBets_r14, e_law09_TremorBets_r15, e_law09_TremorBets_r16, e_law09_TremorBets_r17, e_law09_TremorBets_r18, e_law09_TremorBets_r19, e_law09_TremorBets_r21, h1, h2, h4, hw, hc]
      refine WL.to ih (by simp) rfl fun x' e σ' hh => ?_
      obtain ⟨k1, k2⟩ := hh
      refine ⟨k1, ?_⟩
      rw [hi0]
      by_cases hq : idxOf (wins b) (all.drop (i + 1)) < 0
      · rw [if_pos hq] at k2 ⊢
        simpa using k2
      · rw [if_neg hq] at k2 ⊢
        rw [if_neg (by omega)]
        exact k2

theorem law_Bets {b : Bet} {hits : List Bool} (hσ : σ ≠ []) :
    lim T (.call false i_law09_TremorBets [.agg [.int .i64 b.num, .int .i64 b.den, .int .i64 b.a, .int .i64 b.b, .int .i64 b.odds], .lst hits.length (hits.flatMap boolE)] σ) = some (.val (.bool true) σ) := by
  refine call_of T_law09_TremorBets e_law09_TremorBets rfl ?_
  by_cases a1 : 100 < hits.length ∧ hits.length ≤ 2000
  · have a2 : (100 : Int) < hits.length := by omega
    have a3 : (hits.length : Int) ≤ 2000 := by omega
    simp [-List.length_flatMap, -List.map_take, e_law09_TremorBets_r0, e_law09_TremorBets_r1, e_law09_TremorBets_r2, e_law09_TremorBets_r3, e_law09_TremorBets_r4, e_law09_TremorBets_r5, e_law09_TremorBets_r6, e_law09_TremorBets_r7, e_law09_TremorBets_r8, e_law09_TremorBets_r9, e_law09_TremorBets_r10, e_law09_TremorBets_r11, e_law09_TremorBets_r12, e_law09_TremorBets_r13, e_law09_TremorBets_r14, e_law09_TremorBets_r15, e_law09_TremorBets_r16, e_law09_TremorBets_r17, e_law09_TremorBets_r18, e_law09_TremorBets_r19, e_law09_TremorBets_r21, a2, a3, C_awake]
  by_cases b1 : 2002 < hits.length
  · have a2 : (100 : Int) < hits.length := by omega
    have a3 : ¬ (hits.length : Int) ≤ 2000 := by omega
    have a4 : (2002 : Int) < hits.length := by omega
    simp [-List.length_flatMap, -List.map_take, e_law09_TremorBets_r0, e_law09_TremorBets_r1, e_law09_TremorBets_r2, e_law09_TremorBets_r3, e_law09_TremorBets_r4, e_law09_TremorBets_r5, e_law09_TremorBets_r6, e_law09_TremorBets_r7, e_law09_TremorBets_r8, e_law09_TremorBets_r9, e_law09_TremorBets_r10, e_law09_TremorBets_r11, e_law09_TremorBets_r12, e_law09_TremorBets_r13, e_law09_TremorBets_r14, e_law09_TremorBets_r15, e_law09_TremorBets_r16, e_law09_TremorBets_r17, e_law09_TremorBets_r18, e_law09_TremorBets_r19, e_law09_TremorBets_r21, a2, a3, a4, C_awake]
  have a4 : ¬ (2002 : Int) < hits.length := by omega
  have r1 : hits.length ≤ room := by unfold room; omega
  have l1 := flat_len (f := boolE) (w := 1) (fun _ => rfl) hits
  simp only [Nat.mul_one] at l1
  have hP := fun σ (hσ : σ ≠ []) => @C_Capital σ b hits (by omega) hσ
  have hW := fun σ (hσ : σ ≠ []) => @C_Won σ b hits (by omega) hσ
  have hR : ∀ σ, lim T (.call false i_ref09_RightBet [.agg [.int .i64 b.num, .int .i64 b.den, .int .i64 b.a, .int .i64 b.b, .int .i64 b.odds]] σ) = some (.val (.bool b.ok) σ) := fun σ => C_RightBet
  by_cases c2 : 2000 < hits.length
  · have a2 : (100 : Int) < hits.length := by omega
    have a3 : ¬ (hits.length : Int) ≤ 2000 := by omega
    have c2' : (2000 : Int) < hits.length := by omega
    cases c1 : b.ok
    · simp only [c1, Bool.false_eq_true, if_false] at hP hW hR
      simp [-List.length_flatMap, -List.map_take, e_law09_TremorBets_r0, e_law09_TremorBets_r1, e_law09_TremorBets_r2, e_law09_TremorBets_r3, e_law09_TremorBets_r4, e_law09_TremorBets_r5, e_law09_TremorBets_r6, e_law09_TremorBets_r7, e_law09_TremorBets_r8, e_law09_TremorBets_r9, e_law09_TremorBets_r10, e_law09_TremorBets_r11, e_law09_TremorBets_r12, e_law09_TremorBets_r13, e_law09_TremorBets_r14, e_law09_TremorBets_r15, e_law09_TremorBets_r16, e_law09_TremorBets_r17, e_law09_TremorBets_r18, e_law09_TremorBets_r19, e_law09_TremorBets_r21, a2, a3, a4, C_BetL, r1, l1, hP, hW, hR, C_awake]
    · simp only [c1, c2, if_true] at hP hW hR
      simp [-List.length_flatMap, -List.map_take, e_law09_TremorBets_r0, e_law09_TremorBets_r1, e_law09_TremorBets_r2, e_law09_TremorBets_r3, e_law09_TremorBets_r4, e_law09_TremorBets_r5, e_law09_TremorBets_r6, e_law09_TremorBets_r7, e_law09_TremorBets_r8, e_law09_TremorBets_r9, e_law09_TremorBets_r10, e_law09_TremorBets_r11, e_law09_TremorBets_r12, e_law09_TremorBets_r13, e_law09_TremorBets_r14, e_law09_TremorBets_r15, e_law09_TremorBets_r16, e_law09_TremorBets_r17, e_law09_TremorBets_r18, e_law09_TremorBets_r19, e_law09_TremorBets_r21, a2, a3, a4, C_BetL, r1, l1, hP, hW, hR, c2', C_awake]
  have a2 : ¬ (100 : Int) < hits.length := by omega
  have c2' : ¬ (2000 : Int) < hits.length := by omega
  cases c1 : b.ok
  · simp only [c1, Bool.false_eq_true, if_false] at hP hW hR
    simp [-List.length_flatMap, -List.map_take, e_law09_TremorBets_r0, e_law09_TremorBets_r1, e_law09_TremorBets_r2, e_law09_TremorBets_r3, e_law09_TremorBets_r4, e_law09_TremorBets_r5, e_law09_TremorBets_r6, e_law09_TremorBets_r7, e_law09_TremorBets_r8, e_law09_TremorBets_r9, e_law09_TremorBets_r10, e_law09_TremorBets_r11, e_law09_TremorBets_r12, e_law09_TremorBets_r13, e_law09_TremorBets_r14, e_law09_TremorBets_r15, e_law09_TremorBets_r16, e_law09_TremorBets_r17, e_law09_TremorBets_r18, e_law09_TremorBets_r19, e_law09_TremorBets_r21, a2, a4, C_BetL, r1, l1, hP, hW, hR, C_awake]
  have hcl := caps_len (b := b) hits 1000000
  have hCR := fun σ (hσ : σ ≠ []) => @C_CapitalR σ b c1 hits (by omega) hσ
  have hE := fun σ => @C_ints σ (caps b 1000000 hits) (by omega)
  by_cases c3 : 0 ≤ idxOf (wins b) (caps b 1000000 hits)
  · simp only [c1, c2, c3, if_true, if_false] at hP hW hR
    simp [-List.length_flatMap, -List.map_take, e_law09_TremorBets_r0, e_law09_TremorBets_r1, e_law09_TremorBets_r2, e_law09_TremorBets_r3, e_law09_TremorBets_r4, e_law09_TremorBets_r5, e_law09_TremorBets_r6, e_law09_TremorBets_r7, e_law09_TremorBets_r8, e_law09_TremorBets_r9, e_law09_TremorBets_r10, e_law09_TremorBets_r11, e_law09_TremorBets_r12, e_law09_TremorBets_r13, e_law09_TremorBets_r14, e_law09_TremorBets_r15, e_law09_TremorBets_r16, e_law09_TremorBets_r17, e_law09_TremorBets_r18, e_law09_TremorBets_r19, e_law09_TremorBets_r21, a2, a4, C_BetL, r1, l1, hP, hW, hR, c2', hCR, hE]
    refine WL.to (L_bets (σ := [] :: σ) c1 (all := caps b 1000000 hits) (n := idxOf (wins b) (caps b 1000000 hits)) (f := 0) (by omega) (by simp) (caps b 1000000 hits).length 0 (by omega) (by simp)) (by simp) rfl ?_
    rintro x e σ' ⟨rfl, h2⟩
    simp only [List.drop_zero] at h2
    rw [if_neg (by omega)] at h2
    obtain ⟨rfl, h2⟩ := h2
    simp [h2]
  · simp only [c1, c2, c3, if_true, if_false] at hP hW hR
    simp [-List.length_flatMap, -List.map_take, e_law09_TremorBets_r0, e_law09_TremorBets_r1, e_law09_TremorBets_r2, e_law09_TremorBets_r3, e_law09_TremorBets_r4, e_law09_TremorBets_r5, e_law09_TremorBets_r6, e_law09_TremorBets_r7, e_law09_TremorBets_r8, e_law09_TremorBets_r9, e_law09_TremorBets_r10, e_law09_TremorBets_r11, e_law09_TremorBets_r12, e_law09_TremorBets_r13, e_law09_TremorBets_r14, e_law09_TremorBets_r15, e_law09_TremorBets_r16, e_law09_TremorBets_r17, e_law09_TremorBets_r18, e_law09_TremorBets_r19, e_law09_TremorBets_r21, a2, a4, C_BetL, r1, l1, hP, hW, hR, c2', hCR, hE]
    refine WL.to (L_bets (σ := [] :: σ) c1 (all := caps b 1000000 hits) (n := 0) (f := 7) (by omega) (by simp) (caps b 1000000 hits).length 0 (by omega) (by simp only [List.drop_zero]; intro h; omega)) (by simp) rfl ?_
    rintro x e σ' ⟨rfl, h2⟩
    simp only [List.drop_zero] at h2
    rw [if_pos (by omega)] at h2
    obtain ⟨rfl, h2, h3⟩ := h2
    simp [-List.length_flatMap, -List.map_take, h2, h3, e_law09_TremorBets_r21, C_awake]

theorem go_TremorBets (x0 x1 : D) (t0 : tyBet.hasV x0) (t1 : (Ty.slice 1 .bool).hasV x1) : ∃ σ', lim T (.call false i_law09_TremorBets [x0, x1] [[]]) = some (.val (.bool true) σ') := by
  obtain ⟨b, rfl, _⟩ := bet_of t0
  obtain ⟨l, rfl, _⟩ := rows_of (fun ds h => boole_of h) t1
  exact ⟨_, law_Bets (by simp)⟩
end Go.Proofs.Yticpenoicajakaa
