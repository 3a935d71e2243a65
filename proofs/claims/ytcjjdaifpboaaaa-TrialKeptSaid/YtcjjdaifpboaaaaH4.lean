/-
  What the program finds of a test: is there none; how many and their numbers; the drawdown.
-/
import Derived.Test.YtcjjdaifpboaaaaH3
set_option linter.unusedVariables false
set_option linter.unusedSimpArgs false
namespace Go.Proofs.Ytcjjdaifpboaaaa
open Go Go.Abs Go.Trial
variable {σ : Stack}

def lpN (L : Nat) : LoopSt := { state := 0, pend := none, env := [(2, .ref L 0 0 0)], params := [5, 6], asg := f_trial_Test_none_a3, body := f_trial_Test_none_b3 }
theorem R_none {t : Test} {x : Cv × Rg} : lim T (.round σ.length 1 (stA x) (stP σ.length 1 x ++ ([.cells 0 [.bool false], .loop (lpN σ.length)] :: σ))) =
    some (.val (.bool false) (stP σ.length 1 x ++ ([.cells 0 [.bool false], .loop { lpN σ.length with state := 2, pend := some .ret }] :: σ))) := by
  refine round_of (lp := lpN σ.length) (by simp [stP]) rfl ?_
  rw [show (lpN σ.length).asg = f_trial_Test_none_a3 from rfl, e_trial_Test_none_a3, show (lpN σ.length).body = f_trial_Test_none_b3 from rfl]
  simp [-List.length_flatMap, -List.map_take, e_trial_Test_none_r0, e_trial_Test_none_r1, e_trial_Test_none_r2, e_trial_Test_none_r4, WC_eq e_trial_Test_none_b3, lpN, stP, stA, cvA, midR]
theorem C_none {t : Test} (h : Tv t) (hσ : σ ≠ []) : lim T (.call false i_trial_Test_none [.agg [.int .i64 t.a.lo, .int .i64 t.a.hi, .int .i64 t.b.lo, .int .i64 t.b.hi, .int .i64 t.c.lo, .int .i64 t.c.hi, .lst t.st.length (t.st.flatMap Step.enc)]] σ) = some (.val (.bool (sets t).isEmpty) σ) := by
  refine call_of T_trial_Test_none e_trial_Test_none rfl ?_
  cases hs : sets t with
  | nil =>
    have hc := C_sets1 h (l := σ.length) (i := 1) (S := [.cells 0 [.bool false], .loop (lpN σ.length)] :: σ) (by simp) (by rw [hs]; exact .nil _ rfl)
    simp [-List.length_flatMap, -List.map_take, e_trial_Test_none_r0, e_trial_Test_none_r1, e_trial_Test_none_r2, e_trial_Test_none_r4, C_sets]
    refine WC_rngf (d := .tup []) (σ2 := [.cells 0 [.bool false], .loop (lpN σ.length)] :: σ) (lp := lpN σ.length) (by simp; exact ⟨rfl, rfl, rfl⟩) ?_ (by simp) (by simp [lpN]) ?_
    · simpa [lpN] using hc
    · simp [-List.length_flatMap, -List.map_take, lpN, e_trial_Test_none_r0, e_trial_Test_none_r1, e_trial_Test_none_r2, e_trial_Test_none_r4]
  | cons x xs =>
    have hc := C_sets1 h (l := σ.length) (i := 1) (S := [.cells 0 [.bool false], .loop (lpN σ.length)] :: σ) (by simp) (by rw [hs]; exact .stop _ _ _ _ rfl (by simp) (R_none (t := t)))
    simp [-List.length_flatMap, -List.map_take, e_trial_Test_none_r0, e_trial_Test_none_r1, e_trial_Test_none_r2, e_trial_Test_none_r4, C_sets]
    refine WC_rngf (d := .tup []) (σ2 := [.cells 0 [.bool false], .loop { lpN σ.length with state := 2, pend := some .ret }] :: σ) (lp := { lpN σ.length with state := 2, pend := some .ret }) (by simp; exact ⟨rfl, rfl, rfl⟩) ?_ (by simp) (by simp [lpN]) ?_
    · simpa [lpN] using hc
    · simp [-List.length_flatMap, -List.map_take, lpN, e_trial_Test_none_r0, e_trial_Test_none_r1, e_trial_Test_none_r2, e_trial_Test_none_r4]

/-! ### The drawdown at a flow -/

def lpD (q : Int) (L : Nat) : LoopSt := { state := 0, pend := none, env := [(3, .cref [.int .i64 q]), (4, .ref L 0 0 0), (5, .ref L 1 0 0)], params := [10, 11], asg := f_trial_Test_drawdown_a8, body := f_trial_Test_drawdown_b8 }
def stD (q : Int) (acc : List Rg) (σ : Stack) : Stack := [.cells 0 (spanL acc).enc, .cells 0 [.bool !acc.isEmpty], .loop (lpD q σ.length)] :: σ

/-- What is known of a set that is no empty one. -/
theorem sets_ok {t : Test} (h : Tv t) {x : Cv × Rg} (hx : x ∈ sets t) : x.1.a = 0 ∧ BC t x.1.b x.1.c ∧ x.2 = setOf t x.1.b x.1.c ∧ 0 ≤ x.2.lo ∧ x.2.lo ≤ x.2.hi ∧ x.2.hi ≤ 100000 := by
  obtain ⟨h1, h2, h3, h4⟩ := sets_mem hx
  have h5 := pairs_mem h2
  have h6 := @set_bound t h x.1.b x.1.c
  rw [← h3] at h6
  have h7 := h.a
  exact ⟨h1, ⟨h5.1, h5.2⟩, h3, by omega, h4, by omega⟩
theorem BC.drq {t : Test} (h : Tv t) {b c q : Int} (hb : BC t b c) (hq : 0 ≤ q ∧ q ≤ 1000) {a : Int} (ha : -2100000000 ≤ a ∧ a ≤ 2100000000) : Dr a b c q := by
  have h1 := h.b; have h2 := h.c; have h4 := hb.b; have h5 := hb.c
  exact ⟨hq, ha, by omega, by omega⟩
theorem R_draw {t : Test} (h : Tv t) {q : Int} (hq : 0 ≤ q ∧ q ≤ 1000) {x : Cv × Rg} (hx : x ∈ sets t) {acc : List Rg} :
    lim T (.round σ.length 2 (stA x) (stP σ.length 2 x ++ stD q acc σ)) = some (.val (.bool true) (stP σ.length 2 x ++ stD q (acc ++ [shift q x]) σ)) := by
  obtain ⟨h1, hB, h3, h4, h5, h6⟩ := sets_ok h hx
  obtain ⟨⟨a, b, c⟩, ⟨lo, hi⟩⟩ := x
  dsimp only at h1 hB h3 h4 h5 h6
  subst h1
  have hd := hB.drq h hq (a := 0) (by omega)
  have hC := fun σ => @C_drop σ 0 b c q hd
  have h0 := dr0 hd
  have w1 := w64 (n := -Cv.drop ⟨0, b, c⟩ q) (by omega)
  have hL := fun σ => @C_less σ lo hi (-Cv.drop ⟨0, b, c⟩ q) (by omega) (by omega) (by omega)
  have e1 : lo - -Cv.drop ⟨0, b, c⟩ q = Cv.drop ⟨lo, b, c⟩ q := by simp only [Cv.drop]; omega
  have e2 : hi - -Cv.drop ⟨0, b, c⟩ q = Cv.drop ⟨hi, b, c⟩ q := by simp only [Cv.drop]; omega
  rw [e1, e2] at hL
  refine round_of (lp := lpD q σ.length) (by simp [stP, stD]) rfl ?_
  rw [show (lpD q σ.length).asg = f_trial_Test_drawdown_a8 from rfl, e_trial_Test_drawdown_a8, show (lpD q σ.length).body = f_trial_Test_drawdown_b8 from rfl]
  cases acc with
  | nil => simp [-List.length_flatMap, -List.map_take, e_trial_Test_drawdown_r0, e_trial_Test_drawdown_r1, e_trial_Test_drawdown_r2, e_trial_Test_drawdown_r3, e_trial_Test_drawdown_r4, e_trial_Test_drawdown_r5, e_trial_Test_drawdown_r6, e_trial_Test_drawdown_r7, e_trial_Test_drawdown_r9, WC_eq e_trial_Test_drawdown_b8, lpD, stD, stP, stA, cvA, midR, hC, w1, hL, C_span, spanL, shift]
  | cons r acc =>
    have hs := spanL_snoc (l := r :: acc) (by simp) (shift q (⟨0, b, c⟩, ⟨lo, hi⟩))
    simp only [shift, span] at hs
    simp [-List.length_flatMap, -List.map_take, e_trial_Test_drawdown_r0, e_trial_Test_drawdown_r1, e_trial_Test_drawdown_r2, e_trial_Test_drawdown_r3, e_trial_Test_drawdown_r4, e_trial_Test_drawdown_r5, e_trial_Test_drawdown_r6, e_trial_Test_drawdown_r7, e_trial_Test_drawdown_r9, WC_eq e_trial_Test_drawdown_b8, lpD, stD, stP, stA, cvA, midR, hC, w1, hL, C_span, shift]
    simp only [List.cons_append] at hs
    rw [hs]
    simp
theorem Rs_draw {t : Test} (h : Tv t) {q : Int} (hq : 0 ≤ q ∧ q ≤ 1000) : ∀ (l : List (Cv × Rg)) (acc : List Rg), (∀ x ∈ l, x ∈ sets t) →
    Rnds T (σ.length + 1) σ.length 2 stA (stP σ.length 2) l (stD q acc σ) true (stD q (acc ++ l.map (shift q)) σ)
  | [], acc, _ => by simpa using Rnds.nil _ (by simp [stD])
  | x :: l, acc, hl => by
    refine .go _ _ _ _ _ _ (by simp [stD]) (R_draw h hq (hl x (by simp))) ?_
    have := Rs_draw h hq l (acc ++ [shift q x]) fun y hy => hl y (by simp [hy])
    simpa using this
theorem C_drawdown {t : Test} (h : Tv t) {q : Int} (hq : 0 ≤ q ∧ q ≤ 1000) (hσ : σ ≠ []) :
    lim T (.call false i_trial_Test_drawdown [.agg [.int .i64 t.a.lo, .int .i64 t.a.hi, .int .i64 t.b.lo, .int .i64 t.b.hi, .int .i64 t.c.lo, .int .i64 t.c.hi, .lst t.st.length (t.st.flatMap Step.enc)], .int .i64 q] σ) = some (.val (.tup [.agg (dOf q (sets t)).enc, .bool !(sets t).isEmpty]) σ) := by
  refine call_of T_trial_Test_drawdown e_trial_Test_drawdown rfl ?_
  have hr := Rs_draw (σ := σ) h hq (sets t) [] fun x hx => hx
  have hc := C_sets1 h (l := σ.length) (i := 2) (S := stD q [] σ) (by simp [stD]) (by simpa [stD] using hr)
  simp [-List.length_flatMap, -List.map_take, e_trial_Test_drawdown_r0, e_trial_Test_drawdown_r1, e_trial_Test_drawdown_r2, e_trial_Test_drawdown_r3, e_trial_Test_drawdown_r4, e_trial_Test_drawdown_r5, e_trial_Test_drawdown_r6, e_trial_Test_drawdown_r7, e_trial_Test_drawdown_r9, C_sets]
  refine WC_rngf (d := .tup []) (σ2 := stD q ([] ++ (sets t).map (shift q)) σ) (lp := lpD q σ.length) (by simp; exact ⟨rfl, rfl, rfl⟩) ?_ (by simp [stD]) (by simp [lpD]) ?_
  · simpa [lpD, stD, spanL] using hc
  · have e : ((sets t).map (shift q)).isEmpty = (sets t).isEmpty := by cases sets t <;> rfl
    simp [-List.length_flatMap, -List.map_take, lpD, stD, e_trial_Test_drawdown_r0, e_trial_Test_drawdown_r1, e_trial_Test_drawdown_r2, e_trial_Test_drawdown_r3, e_trial_Test_drawdown_r4, e_trial_Test_drawdown_r5, e_trial_Test_drawdown_r6, e_trial_Test_drawdown_r7, e_trial_Test_drawdown_r9, dOf, e]
end Go.Proofs.Ytcjjdaifpboaaaa
