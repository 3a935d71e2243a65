/-
  How many curves agree, and their numbers: of the program.
-/
import Derived.Test.YtcjjdaifpboaaaaH4
set_option linter.unusedVariables false
set_option linter.unusedSimpArgs false
namespace Go.Proofs.Ytcjjdaifpboaaaa
open Go Go.Abs Go.Trial
variable {σ : Stack}

def lpC (L : Nat) : LoopSt := { state := 0, pend := none, env := [(2, .ref L 0 0 0), (3, .ref L 1 0 0), (4, .ref L 2 0 0), (5, .ref L 3 0 0), (6, .int .i64 0)], params := [22, 23], asg := f_trial_Curves_a12, body := f_trial_Curves_b12 }
def stC (xs : List (Cv × Rg)) (σ : Stack) : Stack := [.cells 0 [.int .i64 (manyOf xs)], .cells 0 (aOf xs).enc, .cells 0 (bOf xs).enc, .cells 0 (cOf xs).enc, .loop (lpC σ.length)] :: σ

theorem many_bound {xs : List (Cv × Rg)} (h : ∀ x ∈ xs, 0 ≤ x.2.lo ∧ x.2.lo ≤ x.2.hi ∧ x.2.hi ≤ 100000) : (xs.length : Int) ≤ manyOf xs ∧ manyOf xs ≤ 100001 * xs.length := by
  induction xs with
  | nil => simp [manyOf]
  | cons x xs ih =>
    have h1 := ih fun y hy => h y (by simp [hy])
    have h2 := h x (by simp)
    simp only [manyOf, List.length_cons]
    push_cast
    omega
theorem sets_len {t : Test} (h : Tv t) : (sets t).length ≤ 1600 :=
  Nat.le_trans (List.length_filterMap_le _ _) (pairs_len h)
theorem R_curves {t : Test} (h : Tv t) {x : Cv × Rg} (hx : x ∈ sets t) {xs : List (Cv × Rg)} (hxs : ∀ x ∈ xs, x ∈ sets t) (hlen : xs.length ≤ 1600) :
    lim T (.round σ.length 4 (stA x) (stP σ.length 4 x ++ stC xs σ)) = some (.val (.bool true) (stP σ.length 4 x ++ stC (xs ++ [x]) σ)) := by
  obtain ⟨h1, hB, h3, h4, h5, h6⟩ := sets_ok h hx
  have hb := many_bound (xs := xs) fun y hy => (sets_ok h (hxs y hy)).2.2.2
  have hm := manyOf_snoc x xs
  have w1 := w64 (n := x.2.hi - x.2.lo) (by omega)
  have w2 := w64 (n := x.2.hi - x.2.lo + 1) (by omega)
  have w3 := w64 (n := manyOf xs + (x.2.hi - x.2.lo + 1)) (by omega)
  refine round_of (lp := lpC σ.length) (by simp [stP, stC]) rfl ?_
  rw [show (lpC σ.length).asg = f_trial_Curves_a12 from rfl, e_trial_Curves_a12, show (lpC σ.length).body = f_trial_Curves_b12 from rfl]
  cases xs with
  | nil =>
    have e0 : manyOf [] = 0 := rfl
    rw [e0] at hm w3
    simp only [List.nil_append] at hm
    simp only [Int.zero_add] at hm w3
    simp [-List.length_flatMap, -List.map_take, e_trial_Curves_r0, e_trial_Curves_r1, e_trial_Curves_r2, e_trial_Curves_r3, e_trial_Curves_r4, e_trial_Curves_r5, e_trial_Curves_r6, e_trial_Curves_r7, e_trial_Curves_r8, e_trial_Curves_r9, e_trial_Curves_r10, e_trial_Curves_r11, e_trial_Curves_r13, e_trial_Curves_r14, e_trial_Curves_r15, WC_eq e_trial_Curves_b12, lpC, stC, stP, stA, cvA, midR, e0, w1, w2, w3, C_span, hm]
    simp [aOf, bOf, cOf, spanL]
  | cons y ys =>
    have e1 : manyOf (y :: ys) ≠ 0 := by simp only [List.length_cons] at hb; omega
    have ha : aOf ((y :: ys) ++ [x]) = span (aOf (y :: ys)) x.2 := by simp only [aOf, List.map_append, List.map_cons, List.map_nil]; exact spanL_snoc (by simp) _
    have hbb : bOf ((y :: ys) ++ [x]) = span (bOf (y :: ys)) ⟨x.1.b, x.1.b⟩ := by simp only [bOf, List.map_append, List.map_cons, List.map_nil]; exact spanL_snoc (by simp) _
    have hc : cOf ((y :: ys) ++ [x]) = span (cOf (y :: ys)) ⟨x.1.c, x.1.c⟩ := by simp only [cOf, List.map_append, List.map_cons, List.map_nil]; exact spanL_snoc (by simp) _
    simp only [List.cons_append] at ha hbb hc hm
    simp only [stC]
    generalize aOf (y :: ys) = A at *
    generalize bOf (y :: ys) = B at *
    generalize cOf (y :: ys) = C at *
    generalize manyOf (y :: ys) = M at *
    simp [-List.length_flatMap, -List.map_take, e_trial_Curves_r0, e_trial_Curves_r1, e_trial_Curves_r2, e_trial_Curves_r3, e_trial_Curves_r4, e_trial_Curves_r5, e_trial_Curves_r6, e_trial_Curves_r7, e_trial_Curves_r8, e_trial_Curves_r9, e_trial_Curves_r10, e_trial_Curves_r11, e_trial_Curves_r13, e_trial_Curves_r14, e_trial_Curves_r15, WC_eq e_trial_Curves_b12, lpC, stC, stP, stA, cvA, midR, e1, w1, w2, w3, C_span, ha, hbb, hc, hm, span]

theorem Rs_curves {t : Test} (h : Tv t) : ∀ (l xs : List (Cv × Rg)), (∀ x ∈ l, x ∈ sets t) → (∀ x ∈ xs, x ∈ sets t) → xs.length + l.length ≤ 1600 →
    Rnds T (σ.length + 1) σ.length 4 stA (stP σ.length 4) l (stC xs σ) true (stC (xs ++ l) σ)
  | [], xs, _, _, _ => by simpa using Rnds.nil _ (by simp [stC])
  | x :: l, xs, hl, hxs, hlen => by
    simp only [List.length_cons] at hlen
    refine .go _ _ _ _ _ _ (by simp [stC]) (R_curves h (hl x (by simp)) hxs (by omega)) ?_
    have := Rs_curves h l (xs ++ [x]) (fun y hy => hl y (by simp [hy])) (fun y hy => by
      rcases List.mem_append.1 hy with hy | hy
      · exact hxs y hy
      · simp at hy; subst hy; exact hl _ (by simp)) (by simp; omega)
    simpa using this
def curvesD (t : Test) : D :=
  if fault t = 0 then (if (sets t).isEmpty then .tup [.int .i64 0, .agg [.int .i64 0, .int .i64 0], .agg [.int .i64 0, .int .i64 0], .agg [.int .i64 0, .int .i64 0], .int .i64 7]
    else .tup [.int .i64 (manyOf (sets t)), .agg (aOf (sets t)).enc, .agg (bOf (sets t)).enc, .agg (cOf (sets t)).enc, .int .i64 0])
  else .tup [.int .i64 0, .agg [.int .i64 0, .int .i64 0], .agg [.int .i64 0, .int .i64 0], .agg [.int .i64 0, .int .i64 0], .int .i64 (fault t)]
theorem C_curves {t : Test} (hl : t.st.length ≤ 100000) (hσ : σ ≠ []) : lim T (.call false i_trial_Curves [.agg [.int .i64 t.a.lo, .int .i64 t.a.hi, .int .i64 t.b.lo, .int .i64 t.b.hi, .int .i64 t.c.lo, .int .i64 t.c.hi, .lst t.st.length (t.st.flatMap Step.enc)]] σ) = some (.val (curvesD t) σ) := by
  refine call_of T_trial_Curves e_trial_Curves rfl ?_
  have hf := fun σ => @C_check σ t hl
  by_cases h0 : fault t = 0
  rotate_left
  · simp [-List.length_flatMap, -List.map_take, e_trial_Curves_r0, e_trial_Curves_r1, e_trial_Curves_r2, e_trial_Curves_r3, e_trial_Curves_r4, e_trial_Curves_r5, e_trial_Curves_r6, e_trial_Curves_r7, e_trial_Curves_r8, e_trial_Curves_r9, e_trial_Curves_r10, e_trial_Curves_r11, e_trial_Curves_r13, e_trial_Curves_r14, e_trial_Curves_r15, hf, h0, curvesD]
  have h := fault_tv h0
  have hr := Rs_curves (σ := σ) h (sets t) [] (fun x hx => hx) (by simp) (by simpa using sets_len h)
  have hc := C_sets1 h (l := σ.length) (i := 4) (S := stC [] σ) (by simp [stC]) (by simpa [stC] using hr)
  simp [-List.length_flatMap, -List.map_take, e_trial_Curves_r0, e_trial_Curves_r1, e_trial_Curves_r2, e_trial_Curves_r3, e_trial_Curves_r4, e_trial_Curves_r5, e_trial_Curves_r6, e_trial_Curves_r7, e_trial_Curves_r8, e_trial_Curves_r9, e_trial_Curves_r10, e_trial_Curves_r11, e_trial_Curves_r13, e_trial_Curves_r14, e_trial_Curves_r15, hf, h0, C_sets]
  refine WC_rngf (d := .tup []) (σ2 := stC ([] ++ sets t) σ) (lp := lpC σ.length) (by simp; exact ⟨rfl, rfl, rfl⟩) ?_ (by simp [stC]) (by simp [lpC]) ?_
  · simpa [lpC, stC, aOf, bOf, cOf, spanL, manyOf] using hc
  · have hb := many_bound (xs := sets t) fun y hy => (sets_ok h hy).2.2.2
    cases hs : sets t with
    | nil =>
      have e0 : manyOf [] = 0 := rfl
      simp [-List.length_flatMap, -List.map_take, lpC, stC, e_trial_Curves_r0, e_trial_Curves_r1, e_trial_Curves_r2, e_trial_Curves_r3, e_trial_Curves_r4, e_trial_Curves_r5, e_trial_Curves_r6, e_trial_Curves_r7, e_trial_Curves_r8, e_trial_Curves_r9, e_trial_Curves_r10, e_trial_Curves_r11, e_trial_Curves_r13, e_trial_Curves_r14, e_trial_Curves_r15, curvesD, h0, hs, e0, aOf, bOf, cOf, spanL]
    | cons x xs =>
      have e1 : manyOf (x :: xs) ≠ 0 := by rw [hs] at hb; simp only [List.length_cons] at hb; omega
      simp [-List.length_flatMap, -List.map_take, lpC, stC, e_trial_Curves_r0, e_trial_Curves_r1, e_trial_Curves_r2, e_trial_Curves_r3, e_trial_Curves_r4, e_trial_Curves_r5, e_trial_Curves_r6, e_trial_Curves_r7, e_trial_Curves_r8, e_trial_Curves_r9, e_trial_Curves_r10, e_trial_Curves_r11, e_trial_Curves_r13, e_trial_Curves_r14, e_trial_Curves_r15, curvesD, h0, hs, e1]
end Go.Proofs.Ytcjjdaifpboaaaa
