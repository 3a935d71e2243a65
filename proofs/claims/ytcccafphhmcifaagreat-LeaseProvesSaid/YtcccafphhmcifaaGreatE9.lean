/-
  Programmes of layer 11: copies of tables; what a ladder costs, right tables, by the document's words.
-/
import Derived.Test.YtcccafphhmcifaaGreatE8
set_option linter.unusedVariables false
set_option linter.unusedSimpArgs false
namespace Go.Proofs.YtcccafphhmcifaaGreat
open Go Go.Abs Go.Lease
variable {σ : Stack}

theorem ladE_at {t : List (List Rn)} {i : Nat} {l : List Rn} (hx : t[i]? = some l) : ((t.flatMap ladE).drop i).take 1 = [.lst l.length (l.flatMap Rn.enc)] := by
  have := flat_at (f := ladE) (w := 1) (fun _ => rfl) hx
  simpa using this
theorem rn_dr {l : List Rn} {i : Nat} {r : Rn} (hx : l[i]? = some r) : (l.flatMap Rn.enc).drop (i * 2) = .int .i64 r.u :: .int .i64 r.c :: (l.flatMap Rn.enc).drop (i * 2 + 2) := by
  have := k_drop (f := Rn.enc) (w := 2) (fun _ => rfl) hx
  simpa using this

/-! ### Copies -/

theorem L_back1 {t : List (List Rn)} (ht : t.length ≤ 100000) {y : Nat} {l : List Rn} (hy : t[y]? = some l) (hl : l.length ≤ 100000) {d3 : D} (s3 : d3.calm = d3) : ∀ (m k v : Nat), k + m = l.length →
    WL T [0, 3, 4, 5, 6] false f_law11_back_l9 [(0, .lst t.length (t.flatMap ladE)), (3, d3), (4, .int .i64 y), (5, .sl σ.length 0 v 0 k 2), (6, .int .i64 k)] ([.cells v ((l.take k).flatMap Rn.enc)] :: σ)
      (fun x e σ' => ∃ v', x = .exit 2 ∧ get e 0 = .lst t.length (t.flatMap ladE) ∧ get e 3 = d3 ∧ get e 4 = .int .i64 y ∧ get e 5 = .sl σ.length 0 v' 0 l.length 2 ∧ σ' = [.cells v' (l.flatMap Rn.enc)] :: σ)
  | 0, k, v, hk => by
    refine WL_step e_law11_back_l9 ?_
    have g1 : k = l.length := by omega
    have g2 := ladE_at hy
    have g3 : y < t.length := (List.getElem?_eq_some_iff.1 hy).1
    subst g1
    simp [-List.length_flatMap, -List.map_take, e_law11_back_r0, e_law11_back_r1, e_law11_back_r2, e_law11_back_r3, e_law11_back_r4, e_law11_back_r5, e_law11_back_r6, e_law11_back_r7, e_law11_back_r8, e_law11_back_r10, e_law11_back_r11, e_law11_back_r13, g2, g3, s3]
  | m + 1, k, v, hk => by
    refine WL_step e_law11_back_l9 ?_
    have g1 : k < l.length := by omega
    have g2 := ladE_at hy
    have g3 : y < t.length := (List.getElem?_eq_some_iff.1 hy).1
    obtain ⟨r, hx⟩ : ∃ x, l[k]? = some x := ⟨_, List.getElem?_eq_getElem g1⟩
    have a1 := rn_dr hx
    have w1 := wnext g1 (by omega)
    have h3 := flat_take (f := Rn.enc) (w := 2) (fun _ => rfl) (Nat.le_of_lt g1)
    have h4 := flat_snoc (f := Rn.enc) hx
    have h5 := flat_len (f := Rn.enc) (w := 2) (fun _ => rfl) (l.take k)
    have h7 : (k + 1) * 16 ≤ room := by unfold room; omega
    have h8 : min k l.length = k := by omega
    have ih := L_back1 ht hy hl s3 m (k + 1) (v + 1) (by omega)
    simp [-List.length_flatMap, -List.map_take, e_law11_back_r0, e_law11_back_r1, e_law11_back_r2, e_law11_back_r3, e_law11_back_r4, e_law11_back_r5, e_law11_back_r6, e_law11_back_r7, e_law11_back_r8, e_law11_back_r10, e_law11_back_r11, e_law11_back_r13, g1, g2, g3, a1, w1, h3, h5, h7, h8, s3]
    refine WL.to ih (by simp) (by simp [← h4]) fun x e σ hh => hh
theorem L_back {t : List (List Rn)} (ht : t.length ≤ 100000) (hl : ∀ l ∈ t, l.length ≤ 100000) : ∀ (m y : Nat), y + m = t.length →
    WL T [0, 3, 4] true f_law11_back_l12 [(0, .lst t.length (t.flatMap ladE)), (3, .sl σ.length 0 y 0 y 1), (4, .int .i64 y)] ([.cells y ((t.take y).flatMap ladE)] :: σ)
      (fun x e σ' => x = .exit 0 ∧ get e 3 = .sl σ.length 0 t.length 0 t.length 1 ∧ σ' = [.cells t.length (t.flatMap ladE)] :: σ)
  | 0, y, hy => by
    refine WL_stepS e_law11_back_l12 ?_
    have g1 : y = t.length := by omega
    subst g1
    simp [-List.length_flatMap, -List.map_take, e_law11_back_r0, e_law11_back_r1, e_law11_back_r2, e_law11_back_r3, e_law11_back_r4, e_law11_back_r5, e_law11_back_r6, e_law11_back_r7, e_law11_back_r8, e_law11_back_r10, e_law11_back_r11, e_law11_back_r13]
  | m + 1, y, hy => by
    refine WL_stepS e_law11_back_l12 ?_
    have g1 : y < t.length := by omega
    obtain ⟨l, hx⟩ : ∃ x, t[y]? = some x := ⟨_, List.getElem?_eq_getElem g1⟩
    have w1 := wnext g1 (by omega)
    have ih := L_back ht hl m (y + 1) (by omega)
    have h4 := flat_snoc (f := ladE) hx
    have h5 := flat_len (f := ladE) (w := 1) (fun _ => rfl) (t.take y)
    have h8 : min y t.length = y := by omega
    simp only [List.length_take, h8, Nat.mul_one] at h5
    have h6 : ((t.take y).flatMap ladE).take y = (t.take y).flatMap ladE := List.take_of_length_le (by omega)
    have h7 : (y + 1) * 24 ≤ room := by unfold room; omega
    have h9 := k_self (f := Rn.enc) (w := 2) (fun _ => rfl) l
    simp [-List.length_flatMap, -List.map_take, e_law11_back_r0, e_law11_back_r1, e_law11_back_r2, e_law11_back_r3, e_law11_back_r4, e_law11_back_r5, e_law11_back_r6, e_law11_back_r7, e_law11_back_r8, e_law11_back_r10, e_law11_back_r11, e_law11_back_r13, g1]
    refine WL.to (L_back1 (σ := [.cells y ((t.take y).flatMap ladE)] :: σ) ht hx (hl l (List.mem_of_getElem? hx)) (d3 := .sl σ.length 0 y 0 y 1) (by simp) l.length 0 0 (by omega)) (by simp) (by simp) ?_
    rintro x e σ' ⟨v', rfl, g0, g3, g4, g5, rfl⟩
    simp only [List.length_cons] at g5
    have hfz : frz (σ.length) 16 (.sl (σ.length + 1) 0 v' 0 l.length 2) ([.cells v' (l.flatMap Rn.enc)] :: [.cells y ((t.take y).flatMap ladE)] :: σ) = (.lst l.length (l.flatMap Rn.enc), [.dead] :: [.cells y ((t.take y).flatMap ladE)] :: σ) := by
      rw [frz_sl (by omega) (cs := l.flatMap Rn.enc) (by simp) (by omega)]
      simp [h9]
    simp [-List.length_flatMap, -List.map_take, e_law11_back_r10, e_law11_back_r11, g0, g3, g4, g5, w1, h5, h6, h7, hfz]
    exact WL.to ih (by simp) (by simp [← h4]) fun x e σ hh => hh
theorem C_back {t : List (List Rn)} (ht : t.length ≤ 100000) (hl : ∀ l ∈ t, l.length ≤ 100000) (hσ : σ ≠ []) : lim T (.call false i_law11_back [.lst t.length (t.flatMap ladE)] σ) = some (.val (.lst t.length (t.flatMap ladE)) σ) := by
  refine call_of T_law11_back e_law11_back rfl ?_
  simp [-List.length_flatMap, -List.map_take, e_law11_back_r0, e_law11_back_r1, e_law11_back_r2, e_law11_back_r3, e_law11_back_r4, e_law11_back_r5, e_law11_back_r6, e_law11_back_r7, e_law11_back_r8, e_law11_back_r10, e_law11_back_r11, e_law11_back_r13]
  refine WL.to (L_back (σ := σ) ht hl t.length 0 (by omega)) (by simp) (by simp) ?_
  rintro x e σ' ⟨rfl, g3, rfl⟩
  have ho := k_out (f := ladE) (w := 1) (fun _ => rfl) (fun x => by simp) (l := t) (j := 0) (v := t.length) (bs := [.cells t.length (t.flatMap ladE)]) hσ rfl
  simp [-List.length_flatMap, -List.map_take, e_law11_back_r13, g3]
  rw [ho]
  simp
/-! ### What a ladder costs -/

theorem L_CostR {l : List Rn} (hl : l.length ≤ 100000) {c : Int} : ∀ (m i : Nat), i + m = l.length →
    WL T [0, 1, 5] false f_ref11_Cost_l6 [(0, .lst l.length (l.flatMap Rn.enc)), (1, .int .i64 c), (5, .int .i64 i)] σ
      (fun x e σ' => σ' = σ ∧ if l.drop i = [] then x = .exit 0 else x = .ret ∧ get e 4 = .int .i64 (costI (l.drop i) c))
  | 0, i, hi => by
    refine WL_step e_ref11_Cost_l6 ?_
    have h1 : ¬ i < l.length := by omega
    have h2 : l.drop i = [] := List.drop_eq_nil_of_le (by omega)
    rw [h2]
    simp [-List.length_flatMap, -List.map_take, e_ref11_Cost_r0, e_ref11_Cost_r1, e_ref11_Cost_r2, e_ref11_Cost_r3, e_ref11_Cost_r4, e_ref11_Cost_r5, e_ref11_Cost_r7, h1]
  | m + 1, i, hi => by
    refine WL_step e_ref11_Cost_l6 ?_
    have h1 : i < l.length := by omega
    obtain ⟨r, hx⟩ : ∃ x, l[i]? = some x := ⟨_, List.getElem?_eq_getElem h1⟩
    have a1 := rn_dr hx
    have w1 := wnext h1 (by omega)
    have w2 : IntKind.i64.wrap ((l.length : Int) - 1) = ((l.length - 1 : Nat) : Int) := by rw [w64 (by omega)]; omega
    have ih := L_CostR hl (c := c) m (i + 1) (by omega)
    rw [dropS hx]
    by_cases hc : c ≤ r.u
    · have e1 : costI (r :: l.drop (i + 1)) c = r.c := by
        cases l.drop (i + 1) with
        | nil => rfl
        | cons s l => simp only [costI]; rw [if_pos hc]
      rw [e1]
      simp [-List.length_flatMap, -List.map_take, e_ref11_Cost_r0, e_ref11_Cost_r1, e_ref11_Cost_r2, e_ref11_Cost_r3, e_ref11_Cost_r4, e_ref11_Cost_r5, e_ref11_Cost_r7, h1, a1, w1, w2, hc]
    · by_cases hL : i = l.length - 1
      · have e2 : l.drop (i + 1) = [] := List.drop_eq_nil_of_le (by omega)
        rw [e2]
        have hL' : (i : Int) = ((l.length - 1 : Nat) : Int) := by omega
        simp only [← hL'] at w2
        simp [-List.length_flatMap, -List.map_take, e_ref11_Cost_r0, e_ref11_Cost_r1, e_ref11_Cost_r2, e_ref11_Cost_r3, e_ref11_Cost_r4, e_ref11_Cost_r5, e_ref11_Cost_r7, h1, a1, w1, w2, hc, costI]
      · have hL' : ¬ (i : Int) = ((l.length - 1 : Nat) : Int) := by omega
        obtain ⟨s, hs⟩ : ∃ s, l[i + 1]? = some s := ⟨_, List.getElem?_eq_getElem (show i + 1 < l.length by omega)⟩
        have e1 : costI (r :: l.drop (i + 1)) c = costI (l.drop (i + 1)) c := by rw [dropS hs]; simp only [costI]; rw [if_neg hc]
        have e2 : l.drop (i + 1) ≠ [] := by rw [dropS hs]; simp
        rw [e1]
        simp [-List.length_flatMap, -List.map_take, e_ref11_Cost_r0, e_ref11_Cost_r1, e_ref11_Cost_r2, e_ref11_Cost_r3, e_ref11_Cost_r4, e_ref11_Cost_r5, e_ref11_Cost_r7, h1, a1, w1, w2, hc, hL']
        exact WL.to ih (by simp) rfl fun x e σ hh => by simp only [e2, if_false] at hh; simpa using hh
theorem C_CostR {l : List Rn} (hl : l.length ≤ 100000) {c : Int} : lim T (.call false i_ref11_Cost [.lst l.length (l.flatMap Rn.enc), .int .i64 c] σ) = some (.val (.int .i64 (costI l c)) σ) := by
  refine call_of T_ref11_Cost e_ref11_Cost rfl ?_
  simp [-List.length_flatMap, -List.map_take, e_ref11_Cost_r0, e_ref11_Cost_r1, e_ref11_Cost_r2, e_ref11_Cost_r3, e_ref11_Cost_r4, e_ref11_Cost_r5, e_ref11_Cost_r7]
  refine WL.to (L_CostR (σ := [] :: σ) hl (c := c) l.length 0 (by omega)) (by simp) rfl ?_
  rintro x e σ' ⟨rfl, hh⟩
  rw [List.drop_zero] at hh
  by_cases h : l = []
  · rw [if_pos h] at hh
    subst hh h
    simp [-List.length_flatMap, -List.map_take, e_ref11_Cost_r7, costI]
  · rw [if_neg h] at hh
    obtain ⟨rfl, g4⟩ := hh
    simp [g4]
end Go.Proofs.YtcccafphhmcifaaGreat
