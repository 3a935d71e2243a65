/-
  The capacities: of the program, of the reference.
-/
import Derived.Test.YtcjjdaifpboaaaaH8
set_option linter.unusedVariables false
set_option linter.unusedSimpArgs false
namespace Go.Proofs.Ytcjjdaifpboaaaa
open Go Go.Abs Go.Trial
variable {σ : Stack}

theorem C_cap2 {a b n : Int} : lim T (.call false i_trial_Capacity_2 [.agg [.int .i64 a, .int .i64 b], .cref [.int .i64 n]] σ) = some (.val (.bool (decide (b ≤ n))) σ) := by
  refine call_of T_trial_Capacity_2 e_trial_Capacity_2 rfl ?_
  simp [-List.length_flatMap, -List.map_take, e_trial_Capacity_2_r0, e_trial_Capacity_2_r1]
theorem C_cap3 {a b n : Int} : lim T (.call false i_trial_Capacity_3 [.agg [.int .i64 a, .int .i64 b], .cref [.int .i64 n]] σ) = some (.val (.bool (decide (a ≤ n))) σ) := by
  refine call_of T_trial_Capacity_3 e_trial_Capacity_3 rfl ?_
  simp [-List.length_flatMap, -List.map_take, e_trial_Capacity_3_r0, e_trial_Capacity_3_r1]
theorem L_cap {t : Test} (h : Tv t) {g : Nat} {n : Int} {p : Int → Int → Bool} (hp : ∀ a b σ, lim T (.call false g [.agg [.int .i64 a, .int .i64 b], .cref [.int .i64 n]] σ) = some (.val (.bool (p a b)) σ)) (hσ : σ ≠ []) :
    ∀ (m : Nat) (lo hi : Int), -1 ≤ lo → lo ≤ hi → hi ≤ 1000 → hi - lo < 2 ^ m →
    WL T [0, 1, 4, 5] false f_trial_Capacity_1_l8 [(0, .fn g [] [.cref [.int .i64 n]]), (1, .cref t.enc), (4, .int .i64 lo), (5, .int .i64 hi)] σ
      (fun x e σ' => σ' = σ ∧ x = .exit 0 ∧ get e 4 = .int .i64 (bs (fun q => p (dOf q (sets t)).lo (dOf q (sets t)).hi) m lo hi))
  | 0, lo, hi, h0, h1, h2, h3 => by
    refine WL_step e_trial_Capacity_1_l8 ?_
    have h4 : ¬ lo < hi := by simp at h3; omega
    simp [-List.length_flatMap, -List.map_take, e_trial_Capacity_1_r0, e_trial_Capacity_1_r1, e_trial_Capacity_1_r2, e_trial_Capacity_1_r3, e_trial_Capacity_1_r4, e_trial_Capacity_1_r5, e_trial_Capacity_1_r6, e_trial_Capacity_1_r7, e_trial_Capacity_1_r9, h4, bs]
  | m + 1, lo, hi, h0, h1, h2, h3 => by
    refine WL_step e_trial_Capacity_1_l8 ?_
    have hp2 : (2 : Int) ^ (m + 1) = 2 * 2 ^ m := by rw [Int.pow_succ]; omega
    rw [hp2] at h3
    by_cases hl : lo < hi
    rotate_left
    · simp [-List.length_flatMap, -List.map_take, e_trial_Capacity_1_r0, e_trial_Capacity_1_r1, e_trial_Capacity_1_r2, e_trial_Capacity_1_r3, e_trial_Capacity_1_r4, e_trial_Capacity_1_r5, e_trial_Capacity_1_r6, e_trial_Capacity_1_r7, e_trial_Capacity_1_r9, hl, bs]
    have w1 := w64 (n := lo + hi) (by omega)
    have w2 := w64 (n := lo + hi + 1) (by omega)
    have w3 : (lo + hi + 1).tdiv 2 = (lo + hi + 1) / 2 := Int.tdiv_eq_ediv_of_nonneg (by omega)
    have w4 := w64 (n := (lo + hi + 1) / 2) (by omega)
    have w5 := w64 (n := (lo + hi + 1) / 2 - 1) (by omega)
    have e1 : lo < (lo + hi + 1) / 2 := by omega
    have e2 : (lo + hi + 1) / 2 ≤ hi := by omega
    have e3 : hi - (lo + hi + 1) / 2 < 2 ^ m := by omega
    have e4 : (lo + hi + 1) / 2 - 1 - lo < 2 ^ m := by omega
    have e5 : bs (fun q => p (dOf q (sets t)).lo (dOf q (sets t)).hi) (m + 1) lo hi = if p (dOf ((lo + hi + 1) / 2) (sets t)).lo (dOf ((lo + hi + 1) / 2) (sets t)).hi = true then bs (fun q => p (dOf q (sets t)).lo (dOf q (sets t)).hi) m ((lo + hi + 1) / 2) hi else bs (fun q => p (dOf q (sets t)).lo (dOf q (sets t)).hi) m lo ((lo + hi + 1) / 2 - 1) := by
      simp only [bs]; rw [if_pos hl]
    rw [e5]
    generalize (lo + hi + 1) / 2 = q at *
    have hd := fun σ (hσ : σ ≠ []) => @C_drawdown σ t h q ⟨by omega, by omega⟩ hσ
    cases hf : p (dOf q (sets t)).lo (dOf q (sets t)).hi
    · have ih := L_cap h hp hσ m lo (q - 1) h0 (by omega) (by omega) e4
      simp [-List.length_flatMap, -List.map_take, e_trial_Capacity_1_r0, e_trial_Capacity_1_r1, e_trial_Capacity_1_r2, e_trial_Capacity_1_r3, e_trial_Capacity_1_r4, e_trial_Capacity_1_r5, e_trial_Capacity_1_r6, e_trial_Capacity_1_r7, e_trial_Capacity_1_r9, hl, w1, w2, w3, w4, w5, hd, hσ, hp, hf]
      exact WL.to ih (by simp) rfl fun x e σ' hh => hh
    · have ih := L_cap h hp hσ m q hi (by omega) e2 h2 e3
      simp [-List.length_flatMap, -List.map_take, e_trial_Capacity_1_r0, e_trial_Capacity_1_r1, e_trial_Capacity_1_r2, e_trial_Capacity_1_r3, e_trial_Capacity_1_r4, e_trial_Capacity_1_r5, e_trial_Capacity_1_r6, e_trial_Capacity_1_r7, e_trial_Capacity_1_r9, hl, w1, w2, w3, w4, w5, hd, hσ, hp, hf]
      exact WL.to ih (by simp) rfl fun x e σ' hh => hh
theorem C_cap1 {t : Test} (h : Tv t) {g : Nat} {n : Int} {p : Int → Int → Bool} (hp : ∀ a b σ, lim T (.call false g [.agg [.int .i64 a, .int .i64 b], .cref [.int .i64 n]] σ) = some (.val (.bool (p a b)) σ)) :
    lim T (.call false i_trial_Capacity_1 [.fn g [] [.cref [.int .i64 n]], .cref t.enc] σ) = some (.val (.int .i64 (bs (fun q => p (dOf q (sets t)).lo (dOf q (sets t)).hi) 10 (-1) 1000)) σ) := by
  refine call_of T_trial_Capacity_1 e_trial_Capacity_1 rfl ?_
  simp [-List.length_flatMap, -List.map_take, e_trial_Capacity_1_r0, e_trial_Capacity_1_r1, e_trial_Capacity_1_r2, e_trial_Capacity_1_r3, e_trial_Capacity_1_r4, e_trial_Capacity_1_r5, e_trial_Capacity_1_r6, e_trial_Capacity_1_r7, e_trial_Capacity_1_r9]
  refine WL.to (L_cap (σ := [] :: σ) h hp (by simp) 10 (-1) 1000 (by omega) (by omega) (by omega) (by omega)) (by simp) rfl ?_
  rintro x e σ' ⟨rfl, rfl, g1⟩
  simp [-List.length_flatMap, -List.map_take, e_trial_Capacity_1_r0, e_trial_Capacity_1_r1, e_trial_Capacity_1_r2, e_trial_Capacity_1_r3, e_trial_Capacity_1_r4, e_trial_Capacity_1_r5, e_trial_Capacity_1_r6, e_trial_Capacity_1_r7, e_trial_Capacity_1_r9, g1]
def capHi (t : Test) (n : Int) : Int := bs (keepHi t n) 10 (-1) 1000
def capLo (t : Test) (n : Int) : Int := bs (keepLo t n) 10 (-1) 1000
def capD (t : Test) (n : Int) : D :=
  if fault t = 0 then (if inn n (-2000000000) 2000000000 then (if (sets t).isEmpty then .tup [.int .i64 0, .int .i64 0, .int .i64 7] else .tup [.int .i64 (capHi t n), .int .i64 (capLo t n), .int .i64 0]) else .tup [.int .i64 0, .int .i64 0, .int .i64 2]) else .tup [.int .i64 0, .int .i64 0, .int .i64 (fault t)]
theorem C_capacity {t : Test} (hl : t.st.length ≤ 100000) {n : Int} (hσ : σ ≠ []) : lim T (.call false i_trial_Capacity [.agg [.int .i64 t.a.lo, .int .i64 t.a.hi, .int .i64 t.b.lo, .int .i64 t.b.hi, .int .i64 t.c.lo, .int .i64 t.c.hi, .lst t.st.length (t.st.flatMap Step.enc)], .int .i64 n] σ) = some (.val (capD t n) σ) := by
  refine call_of T_trial_Capacity e_trial_Capacity rfl ?_
  have hf := fun σ => @C_check σ t hl
  by_cases h0 : fault t = 0
  rotate_left
  · simp [-List.length_flatMap, -List.map_take, e_trial_Capacity_r0, e_trial_Capacity_r1, e_trial_Capacity_r2, e_trial_Capacity_r3, e_trial_Capacity_r4, e_trial_Capacity_r5, e_trial_Capacity_r6, e_trial_Capacity_r7, e_trial_Capacity_r8, e_trial_Capacity_r9, hf, h0, capD]
  have h := fault_tv h0
  cases hq : inn n (-2000000000) 2000000000
  · simp [-List.length_flatMap, -List.map_take, e_trial_Capacity_r0, e_trial_Capacity_r1, e_trial_Capacity_r2, e_trial_Capacity_r3, e_trial_Capacity_r4, e_trial_Capacity_r5, e_trial_Capacity_r6, e_trial_Capacity_r7, e_trial_Capacity_r8, e_trial_Capacity_r9, hf, h0, C_within, hq, capD]
  have hd := fun σ (hσ : σ ≠ []) => @C_none σ t h hσ
  have k2 := fun σ => @C_cap1 σ t h i_trial_Capacity_2 n (fun a b => decide (b ≤ n)) (fun a b σ => C_cap2)
  have k3 := fun σ => @C_cap1 σ t h i_trial_Capacity_3 n (fun a b => decide (a ≤ n)) (fun a b σ => C_cap3)
  have e2 : bs (fun q => decide ((dOf q (sets t)).hi ≤ n)) 10 (-1) 1000 = capHi t n := rfl
  have e3 : bs (fun q => decide ((dOf q (sets t)).lo ≤ n)) 10 (-1) 1000 = capLo t n := rfl
  rw [e2] at k2
  rw [e3] at k3
  simp only [Test.enc] at k2 k3
  cases hs : (sets t).isEmpty
  · rw [hs] at hd
    simp [-List.length_flatMap, -List.map_take, e_trial_Capacity_r0, e_trial_Capacity_r1, e_trial_Capacity_r2, e_trial_Capacity_r3, e_trial_Capacity_r4, e_trial_Capacity_r5, e_trial_Capacity_r6, e_trial_Capacity_r7, e_trial_Capacity_r8, e_trial_Capacity_r9, hf, h0, C_within, hq, hd, k2, k3, capD, hs]
  · rw [hs] at hd
    simp [-List.length_flatMap, -List.map_take, e_trial_Capacity_r0, e_trial_Capacity_r1, e_trial_Capacity_r2, e_trial_Capacity_r3, e_trial_Capacity_r4, e_trial_Capacity_r5, e_trial_Capacity_r6, e_trial_Capacity_r7, e_trial_Capacity_r8, e_trial_Capacity_r9, hf, h0, C_within, hq, hd, capD, hs]

theorem cap_ref {t : Test} (h : Tv t) (hne : sets t ≠ []) (n : Int) {q : Int} (hq : keepHi t n q = true) : keepLo t n q = true := by
  simp only [keepHi, keepLo, decide_eq_true_eq] at hq ⊢
  have hne' : (sets t).map (shift q) ≠ [] := fun h => hne (by simpa using h)
  cases hs : sets t with
  | nil => exact absurd hs hne
  | cons x xs =>
    have hx : x ∈ sets t := by rw [hs]; simp
    have h1 := spanL_mem (l := (sets t).map (shift q)) (List.mem_map_of_mem hx)
    have h2 := (sets_ok h hx).2.2.2
    have h3 : (shift q x).lo ≤ (shift q x).hi := by simp only [shift, Cv.drop]; omega
    unfold dOf at hq
    rw [← hs]
    unfold dOf
    omega
theorem L_Cap {t : Test} (h : Tv t) (hne : sets t ≠ []) {n : Int} : ∀ (m : Nat) (q s : Int), q + m = 1001 → 0 ≤ q → -1 ≤ s → s ≤ q - 1 → (0 ≤ q - 1 → keepLo t n (q - 1) = true) → (0 ≤ s → keepHi t n s = true) → (s < q - 1 → keepHi t n (s + 1) = false) →
    WL T [1, 2, 6, 7, 8] false f_ref04_Capacity_l12 [(1, .int .i64 n), (2, .cref t.enc), (6, .int .i64 s), (7, .int .i64 (q - 1)), (8, .int .i64 q)] σ
      (fun x e σ' => σ' = σ ∧ ∃ a b, Last (keepHi t n) a ∧ Last (keepLo t n) b ∧ (x = .exit 0 ∧ get e 6 = .int .i64 a ∧ get e 7 = .int .i64 b ∨ x = .ret ∧ get e 4 = .int .i64 a ∧ get e 5 = .int .i64 b))
  | 0, q, s, hm, h0, h1, h2, h3, h4, h5 => by
    refine WL_step e_ref04_Capacity_l12 ?_
    have hc : ¬ q ≤ 1000 := by omega
    simp [-List.length_flatMap, -List.map_take, e_ref04_Capacity_r0, e_ref04_Capacity_r1, e_ref04_Capacity_r2, e_ref04_Capacity_r3, e_ref04_Capacity_r4, e_ref04_Capacity_r5, e_ref04_Capacity_r6, e_ref04_Capacity_r7, e_ref04_Capacity_r8, e_ref04_Capacity_r9, e_ref04_Capacity_r10, e_ref04_Capacity_r11, e_ref04_Capacity_r13, hc]
    exact ⟨⟨h1, by omega, h4, fun hh => h5 (by omega)⟩, ⟨by omega, by omega, fun hh => h3 (by omega), fun hh => by omega⟩⟩
  | m + 1, q, s, hm, h0, h1, h2, h3, h4, h5 => by
    refine WL_step e_ref04_Capacity_l12 ?_
    have hc : q ≤ 1000 := by omega
    have w1 := w64 (n := q - 1) (by omega)
    have w2 := w64 (n := q + 1) (by omega)
    have hd := fun σ => @C_Drawdown σ t h q ⟨h0, hc⟩
    simp only [drawD] at hd
    have e1 : keepHi t n q = decide ((dOf q (sets t)).hi ≤ n) := rfl
    have e2 : keepLo t n q = decide ((dOf q (sets t)).lo ≤ n) := rfl
    have hHL := cap_ref h hne n (q := q)
    rw [e1, e2] at hHL
    generalize (dOf q (sets t)) = d at *
    by_cases gl : d.lo ≤ n
    · by_cases gh : d.hi ≤ n
      · by_cases hs : s = q - 1
        · subst hs
          have ih := L_Cap h hne (n := n) m (q + 1) q (by omega) (by omega) (by omega) (by omega) (fun _ => by rw [show q + 1 - 1 = q by omega, e2]; simpa using gl) (fun _ => by rw [e1]; simpa using gh) (fun hh => by omega)
          rw [show q + 1 - 1 = q by omega] at ih
          simp [-List.length_flatMap, -List.map_take, e_ref04_Capacity_r0, e_ref04_Capacity_r1, e_ref04_Capacity_r2, e_ref04_Capacity_r3, e_ref04_Capacity_r4, e_ref04_Capacity_r5, e_ref04_Capacity_r6, e_ref04_Capacity_r7, e_ref04_Capacity_r8, e_ref04_Capacity_r9, e_ref04_Capacity_r10, e_ref04_Capacity_r11, e_ref04_Capacity_r13, hc, hd, gl, gh, w1, w2]
          exact WL.to ih (by simp) rfl fun x e σ' hh => hh
        · have ih := L_Cap h hne (n := n) m (q + 1) s (by omega) (by omega) (by omega) (by omega) (fun _ => by rw [show q + 1 - 1 = q by omega, e2]; simpa using gl) h4 (fun hh => h5 (by omega))
          rw [show q + 1 - 1 = q by omega] at ih
          simp [-List.length_flatMap, -List.map_take, e_ref04_Capacity_r0, e_ref04_Capacity_r1, e_ref04_Capacity_r2, e_ref04_Capacity_r3, e_ref04_Capacity_r4, e_ref04_Capacity_r5, e_ref04_Capacity_r6, e_ref04_Capacity_r7, e_ref04_Capacity_r8, e_ref04_Capacity_r9, e_ref04_Capacity_r10, e_ref04_Capacity_r11, e_ref04_Capacity_r13, hc, hd, gl, gh, w1, w2, hs]
          exact WL.to ih (by simp) rfl fun x e σ' hh => hh
      · have ih := L_Cap h hne (n := n) m (q + 1) s (by omega) (by omega) (by omega) (by omega) (fun _ => by rw [show q + 1 - 1 = q by omega, e2]; simpa using gl) h4 (fun hh => by
          by_cases hs : s < q - 1
          · exact h5 hs
          · rw [show s + 1 = q by omega, e1]; simpa using gh)
        rw [show q + 1 - 1 = q by omega] at ih
        simp [-List.length_flatMap, -List.map_take, e_ref04_Capacity_r0, e_ref04_Capacity_r1, e_ref04_Capacity_r2, e_ref04_Capacity_r3, e_ref04_Capacity_r4, e_ref04_Capacity_r5, e_ref04_Capacity_r6, e_ref04_Capacity_r7, e_ref04_Capacity_r8, e_ref04_Capacity_r9, e_ref04_Capacity_r10, e_ref04_Capacity_r11, e_ref04_Capacity_r13, hc, hd, gl, gh, w1, w2]
        exact WL.to ih (by simp) rfl fun x e σ' hh => hh
    · have gh : ¬ d.hi ≤ n := fun hh => gl (by simpa using hHL (by simpa using hh))
      have hlt : q - 1 < q := by omega
      simp [-List.length_flatMap, -List.map_take, e_ref04_Capacity_r0, e_ref04_Capacity_r1, e_ref04_Capacity_r2, e_ref04_Capacity_r3, e_ref04_Capacity_r4, e_ref04_Capacity_r5, e_ref04_Capacity_r6, e_ref04_Capacity_r7, e_ref04_Capacity_r8, e_ref04_Capacity_r9, e_ref04_Capacity_r10, e_ref04_Capacity_r11, e_ref04_Capacity_r13, hc, hd, gl, gh, w1, w2, hlt]
      refine ⟨⟨h1, by omega, h4, fun hh => ?_⟩, ⟨by omega, by omega, fun hh => h3 (by omega), fun hh => ?_⟩⟩
      · by_cases hs : s < q - 1
        · exact h5 hs
        · rw [show s + 1 = q by omega, e1]; simpa using gh
      · rw [show q - 1 + 1 = q by omega, e2]; simpa using gl
theorem C_Capacity {t : Test} (h : Tv t) (hne : sets t ≠ []) {n : Int} : lim T (.call false i_ref04_Capacity [.agg [.int .i64 t.a.lo, .int .i64 t.a.hi, .int .i64 t.b.lo, .int .i64 t.b.hi, .int .i64 t.c.lo, .int .i64 t.c.hi, .lst t.st.length (t.st.flatMap Step.enc)], .int .i64 n] σ) = some (.val (.tup [.int .i64 (capHi t n), .int .i64 (capLo t n)]) σ) := by
  refine call_of T_ref04_Capacity e_ref04_Capacity rfl ?_
  have kh : Last (keepHi t n) (capHi t n) := bs_last (keepHi_anti h hne n) 10 (-1) 1000 (by omega) (by omega) (by omega) (by omega) (by omega) (by omega)
  have kl : Last (keepLo t n) (capLo t n) := bs_last (keepLo_anti h hne n) 10 (-1) 1000 (by omega) (by omega) (by omega) (by omega) (by omega) (by omega)
  simp [-List.length_flatMap, -List.map_take, e_ref04_Capacity_r0, e_ref04_Capacity_r1, e_ref04_Capacity_r2, e_ref04_Capacity_r3, e_ref04_Capacity_r4, e_ref04_Capacity_r5, e_ref04_Capacity_r6, e_ref04_Capacity_r7, e_ref04_Capacity_r8, e_ref04_Capacity_r9, e_ref04_Capacity_r10, e_ref04_Capacity_r11, e_ref04_Capacity_r13]
  refine WL.to (L_Cap (σ := [] :: σ) h hne (n := n) 1001 0 (-1) (by omega) (by omega) (by omega) (by omega) (by omega) (by omega) (by omega)) (by simp) rfl ?_
  rintro x e σ' ⟨rfl, a, b, h1, h2, h3⟩
  rw [Last.one (keepHi_anti h hne n) h1 kh, Last.one (keepLo_anti h hne n) h2 kl] at h3
  rcases h3 with ⟨rfl, g1, g2⟩ | ⟨rfl, g1, g2⟩
  · simp [-List.length_flatMap, -List.map_take, e_ref04_Capacity_r0, e_ref04_Capacity_r1, e_ref04_Capacity_r2, e_ref04_Capacity_r3, e_ref04_Capacity_r4, e_ref04_Capacity_r5, e_ref04_Capacity_r6, e_ref04_Capacity_r7, e_ref04_Capacity_r8, e_ref04_Capacity_r9, e_ref04_Capacity_r10, e_ref04_Capacity_r11, e_ref04_Capacity_r13, g1, g2]
  · simp [-List.length_flatMap, -List.map_take, e_ref04_Capacity_r0, e_ref04_Capacity_r1, e_ref04_Capacity_r2, e_ref04_Capacity_r3, e_ref04_Capacity_r4, e_ref04_Capacity_r5, e_ref04_Capacity_r6, e_ref04_Capacity_r7, e_ref04_Capacity_r8, e_ref04_Capacity_r9, e_ref04_Capacity_r10, e_ref04_Capacity_r11, e_ref04_Capacity_r13, g1, g2]
end Go.Proofs.Ytcjjdaifpboaaaa
