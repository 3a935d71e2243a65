/-
  How many curves agree, their numbers, the drawdown: of the reference.
-/
import Derived.Test.YtcjjdaifpboaaaaH5
set_option linter.unusedVariables false
set_option linter.unusedSimpArgs false
namespace Go.Proofs.Ytcjjdaifpboaaaa
open Go Go.Abs Go.Trial
variable {σ : Stack}

def z2 : List D := [.int .i64 0, .int .i64 0]
def crE (t : Test) (xs : List (Cv × Rg)) : Env := [(1, .cref t.enc), (3, .own 0 z2), (4, .own 0 z2), (5, .own 0 z2), (6, .int .i64 (manyOf xs)), (7, .own 0 (aOf xs).enc), (8, .own 0 (bOf xs).enc), (9, .own 0 (cOf xs).enc)]
def crQ (t : Test) (xs : List (Cv × Rg)) (e : Env) : Prop := get e 1 = .cref t.enc ∧ get e 3 = .own 0 z2 ∧ get e 4 = .own 0 z2 ∧ get e 5 = .own 0 z2 ∧ get e 6 = .int .i64 (manyOf xs) ∧ get e 7 = .own 0 (aOf xs).enc ∧ get e 8 = .own 0 (bOf xs).enc ∧ get e 9 = .own 0 (cOf xs).enc

theorem L_Cc {t : Test} (h : Tv t) {b : Int} (hb : t.b.lo ≤ b ∧ b ≤ t.b.hi) : ∀ (m : Nat) (c : Int) (xs : List (Cv × Rg)), t.c.lo ≤ c → (cRow t b c).length = m → (∀ x ∈ xs, x ∈ sets t) → xs.length + m ≤ 1600 →
    WL T [1, 3, 4, 5, 6, 7, 8, 9, 10, 11] false f_ref04_Curves_l14 (crE t xs ++ [(10, .int .i64 b), (11, .int .i64 c)]) σ
      (fun x' e σ' => σ' = σ ∧ x' = .exit 2 ∧ crQ t (xs ++ (cRow t b c).filterMap (setAt t)) e ∧ get e 10 = .int .i64 b)
  | 0, c, xs, hc0, hm, hxs, hlen => by
    refine WL_step e_ref04_Curves_l14 ?_
    by_cases hc : c ≤ t.c.hi
    · rw [cRow_cons hc] at hm; cases hm
    · simp [-List.length_flatMap, -List.map_take, e_ref04_Curves_r0, e_ref04_Curves_r1, e_ref04_Curves_r2, e_ref04_Curves_r3, e_ref04_Curves_r4, e_ref04_Curves_r5, e_ref04_Curves_r6, e_ref04_Curves_r7, e_ref04_Curves_r8, e_ref04_Curves_r9, e_ref04_Curves_r10, e_ref04_Curves_r11, e_ref04_Curves_r12, e_ref04_Curves_r13, e_ref04_Curves_r15, e_ref04_Curves_r17, crE, crQ, hc, cRow_nil (show t.c.hi < c by omega)]
  | m + 1, c, xs, hc0, hm, hxs, hlen => by
    refine WL_step e_ref04_Curves_l14 ?_
    by_cases hc : c ≤ t.c.hi
    rotate_left
    · rw [cRow_nil (by omega)] at hm; cases hm
    rw [cRow_cons hc] at hm
    simp only [List.length_cons, Nat.add_right_cancel_iff] at hm
    have hC := h.c
    have w0 := w64 (n := c + 1) (by omega)
    have hB : BC t b c := ⟨hb, by omega, hc⟩
    have hS := fun σ => @C_Set σ t h b c hB
    have hp : (b, c) ∈ pairs t := by
      simp only [pairs, List.mem_flatMap, List.mem_map]
      exact ⟨b, mem_upto hb.1 hb.2, c, mem_upto (by omega) hc, rfl⟩
    cases hx : setAt t (b, c) with
    | none =>
      have hne : (setOf t b c).hi < (setOf t b c).lo := by
        unfold setAt at hx
        split at hx
        · cases hx
        · rename_i g; simpa [Rg.ne] using g
      have ih := L_Cc h hb m (c + 1) xs (by omega) hm hxs (by omega)
      rw [cRow_cons hc, List.filterMap_cons, hx]
      simp [-List.length_flatMap, -List.map_take, e_ref04_Curves_r0, e_ref04_Curves_r1, e_ref04_Curves_r2, e_ref04_Curves_r3, e_ref04_Curves_r4, e_ref04_Curves_r5, e_ref04_Curves_r6, e_ref04_Curves_r7, e_ref04_Curves_r8, e_ref04_Curves_r9, e_ref04_Curves_r10, e_ref04_Curves_r11, e_ref04_Curves_r12, e_ref04_Curves_r13, e_ref04_Curves_r15, e_ref04_Curves_r17, crE, hc, hS, hne, w0]
      simp only [crE] at ih
      exact WL.to ih (by simp) rfl fun x e σ' hh => hh
    | some x =>
      have hne : (setOf t b c).lo ≤ (setOf t b c).hi := by
        unfold setAt at hx
        split at hx
        · rename_i g; simpa [Rg.ne] using g
        · cases hx
      have hne' : ¬ (setOf t b c).hi < (setOf t b c).lo := by omega
      have hx' : x = (⟨0, b, c⟩, setOf t b c) := by simp [setAt, Rg.ne, hne] at hx; exact hx.symm
      subst hx'
      have hin := mem_sets hp hne
      have hok := sets_ok h hin
      have hbd := many_bound (xs := xs) fun y hy => (sets_ok h (hxs y hy)).2.2.2
      have hms := manyOf_snoc (⟨0, b, c⟩, setOf t b c) xs
      have ih := L_Cc h hb m (c + 1) (xs ++ [(⟨0, b, c⟩, setOf t b c)]) (by omega) hm (fun y hy => by
        rcases List.mem_append.1 hy with hy | hy
        · exact hxs y hy
        · simp at hy; subst hy; exact hin) (by simp; omega)
      rw [cRow_cons hc, List.filterMap_cons, hx]
      generalize setOf t b c = s at *
      dsimp only at hok hms
      have w1 := w64 (n := manyOf xs + s.hi) (by omega)
      have w2 := w64 (n := manyOf xs + s.hi - s.lo) (by omega)
      have w3 := w64 (n := manyOf xs + s.hi - s.lo + 1) (by omega)
      have e3 : manyOf xs + (s.hi - s.lo + 1) = manyOf xs + s.hi - s.lo + 1 := by omega
      rw [e3] at hms
      cases xs with
      | nil =>
        have e0 : manyOf [] = 0 := rfl
        rw [e0] at hms w1 w2 w3
        simp only [List.nil_append] at ih hms ⊢
        simp only [Int.zero_add] at w1 w2 w3 hms
        simp [-List.length_flatMap, -List.map_take, e_ref04_Curves_r0, e_ref04_Curves_r1, e_ref04_Curves_r2, e_ref04_Curves_r3, e_ref04_Curves_r4, e_ref04_Curves_r5, e_ref04_Curves_r6, e_ref04_Curves_r7, e_ref04_Curves_r8, e_ref04_Curves_r9, e_ref04_Curves_r10, e_ref04_Curves_r11, e_ref04_Curves_r12, e_ref04_Curves_r13, e_ref04_Curves_r15, e_ref04_Curves_r17, crE, hc, hS, hne', w0, e0, w1, w2, w3, C_Span]
        simp only [crE, hms] at ih
        refine WL.to ih (by simp [aOf, bOf, cOf, spanL]) rfl ?_
        exact fun x e σ' hh => hh
      | cons y ys =>
        have e1 : manyOf (y :: ys) ≠ 0 := by simp only [List.length_cons] at hbd; omega
        have ha : aOf ((y :: ys) ++ [(⟨0, b, c⟩, s)]) = span (aOf (y :: ys)) s := by simp only [aOf, List.map_append, List.map_cons, List.map_nil]; exact spanL_snoc (by simp) _
        have hbb : bOf ((y :: ys) ++ [(⟨0, b, c⟩, s)]) = span (bOf (y :: ys)) ⟨b, b⟩ := by simp only [bOf, List.map_append, List.map_cons, List.map_nil]; exact spanL_snoc (by simp) _
        have hcc : cOf ((y :: ys) ++ [(⟨0, b, c⟩, s)]) = span (cOf (y :: ys)) ⟨c, c⟩ := by simp only [cOf, List.map_append, List.map_cons, List.map_nil]; exact spanL_snoc (by simp) _
        simp [-List.length_flatMap, -List.map_take, e_ref04_Curves_r0, e_ref04_Curves_r1, e_ref04_Curves_r2, e_ref04_Curves_r3, e_ref04_Curves_r4, e_ref04_Curves_r5, e_ref04_Curves_r6, e_ref04_Curves_r7, e_ref04_Curves_r8, e_ref04_Curves_r9, e_ref04_Curves_r10, e_ref04_Curves_r11, e_ref04_Curves_r12, e_ref04_Curves_r13, e_ref04_Curves_r15, e_ref04_Curves_r17, crE, hc, hS, hne', w0, e1, w1, w2, w3, C_Span]
        simp only [crE, hms, ha, hbb, hcc, span, Rg.enc] at ih
        refine WL.to ih (by simp) rfl ?_
        intro x e σ' hh
        simpa using hh

theorem cRow_len {t : Test} {b c : Int} : (cRow t b c).length = (t.c.hi - c + 1).toNat := by simp [cRow, upto_len]
theorem cRow_sub {t : Test} (h : Tv t) {b : Int} (hb : t.b.lo ≤ b ∧ b ≤ t.b.hi) {x : Cv × Rg} (hx : x ∈ (cRow t b t.c.lo).filterMap (setAt t)) : x ∈ sets t := by
  simp only [List.mem_filterMap] at hx ⊢
  obtain ⟨p, hp, hx⟩ := hx
  simp only [sets, List.mem_filterMap]
  refine ⟨p, ?_, hx⟩
  simp only [pairs, List.mem_flatMap]
  exact ⟨b, mem_upto hb.1 hb.2, hp⟩
theorem L_Cb {t : Test} (h : Tv t) : ∀ (m : Nat) (b : Int) (xs : List (Cv × Rg)), t.b.lo ≤ b → (upto b t.b.hi).length = m → (∀ x ∈ xs, x ∈ sets t) → xs.length + m * 40 ≤ 1600 →
    WL T [1, 3, 4, 5, 6, 7, 8, 9, 10] false f_ref04_Curves_l16 (crE t xs ++ [(10, .int .i64 b)]) σ
      (fun x' e σ' => σ' = σ ∧ x' = .exit 0 ∧ crQ t (xs ++ (bRows t b).filterMap (setAt t)) e)
  | 0, b, xs, hb0, hm, hxs, hlen => by
    refine WL_step e_ref04_Curves_l16 ?_
    by_cases hc : b ≤ t.b.hi
    · rw [upto_cons hc] at hm; cases hm
    · simp [-List.length_flatMap, -List.map_take, e_ref04_Curves_r0, e_ref04_Curves_r1, e_ref04_Curves_r2, e_ref04_Curves_r3, e_ref04_Curves_r4, e_ref04_Curves_r5, e_ref04_Curves_r6, e_ref04_Curves_r7, e_ref04_Curves_r8, e_ref04_Curves_r9, e_ref04_Curves_r10, e_ref04_Curves_r11, e_ref04_Curves_r12, e_ref04_Curves_r13, e_ref04_Curves_r15, e_ref04_Curves_r17, crE, crQ, hc, bRows_nil (show t.b.hi < b by omega)]
  | m + 1, b, xs, hb0, hm, hxs, hlen => by
    refine WL_step e_ref04_Curves_l16 ?_
    by_cases hc : b ≤ t.b.hi
    rotate_left
    · rw [upto_nil (by omega)] at hm; cases hm
    rw [upto_cons hc] at hm
    simp only [List.length_cons, Nat.add_right_cancel_iff] at hm
    have hB := h.b
    have hw := h.cw
    have hcl := @cRow_len t b t.c.lo
    have w0 := w64 (n := b + 1) (by omega)
    simp [-List.length_flatMap, -List.map_take, e_ref04_Curves_r0, e_ref04_Curves_r1, e_ref04_Curves_r2, e_ref04_Curves_r3, e_ref04_Curves_r4, e_ref04_Curves_r5, e_ref04_Curves_r6, e_ref04_Curves_r7, e_ref04_Curves_r8, e_ref04_Curves_r9, e_ref04_Curves_r10, e_ref04_Curves_r11, e_ref04_Curves_r12, e_ref04_Curves_r13, e_ref04_Curves_r15, e_ref04_Curves_r17, crE, hc]
    have hi := L_Cc (σ := σ) h ⟨hb0, hc⟩ _ t.c.lo xs (by omega) rfl hxs (by omega)
    simp only [crE] at hi
    refine WL.to hi (by simp) rfl ?_
    rintro x' e σ' ⟨hs, rfl, ⟨g1, g2, g3, g4, g5, g6, g7, g8⟩, g9⟩
    have hs := hs.symm
    subst hs
    have hfl := List.length_filterMap_le (setAt t) (cRow t b t.c.lo)
    have ih := L_Cb h m (b + 1) (xs ++ (cRow t b t.c.lo).filterMap (setAt t)) (by omega) hm (fun y hy => by
      rcases List.mem_append.1 hy with hy | hy
      · exact hxs y hy
      · exact cRow_sub h ⟨hb0, hc⟩ hy) (by simp only [List.length_append]; omega)
    rw [bRows_cons hc, List.filterMap_append, ← List.append_assoc]
    generalize xs ++ (cRow t b t.c.lo).filterMap (setAt t) = ys at *
    simp only [z2] at g2 g3 g4
    simp [-List.length_flatMap, -List.map_take, e_ref04_Curves_r15, g1, g2, g3, g4, g5, g6, g7, g8, g9, w0]
    simp only [crE] at ih
    exact WL.to ih (by simp [z2]) rfl fun x e σ' hh => hh
def CurvesD (t : Test) : D := .tup [.int .i64 (manyOf (sets t)), .agg (aOf (sets t)).enc, .agg (bOf (sets t)).enc, .agg (cOf (sets t)).enc]
theorem C_Curves {t : Test} (h : Tv t) : lim T (.call false i_ref04_Curves [.agg [.int .i64 t.a.lo, .int .i64 t.a.hi, .int .i64 t.b.lo, .int .i64 t.b.hi, .int .i64 t.c.lo, .int .i64 t.c.hi, .lst t.st.length (t.st.flatMap Step.enc)]] σ) = some (.val (CurvesD t) σ) := by
  refine call_of T_ref04_Curves e_ref04_Curves rfl ?_
  have hw := h.bw
  have hl := @upto_len t.b.lo t.b.hi
  simp [-List.length_flatMap, -List.map_take, e_ref04_Curves_r0, e_ref04_Curves_r1, e_ref04_Curves_r2, e_ref04_Curves_r3, e_ref04_Curves_r4, e_ref04_Curves_r5, e_ref04_Curves_r6, e_ref04_Curves_r7, e_ref04_Curves_r8, e_ref04_Curves_r9, e_ref04_Curves_r10, e_ref04_Curves_r11, e_ref04_Curves_r12, e_ref04_Curves_r13, e_ref04_Curves_r15, e_ref04_Curves_r17]
  have hi := L_Cb (σ := [] :: σ) h _ t.b.lo [] (by omega) rfl (by simp) (by simp; omega)
  simp only [crE] at hi
  refine WL.to hi (by simp [z2, manyOf, aOf, bOf, cOf, spanL]) rfl ?_
  rintro x' e σ' ⟨rfl, rfl, g1, g2, g3, g4, g5, g6, g7, g8⟩
  simp only [List.nil_append, bRows_all] at g5 g6 g7 g8
  have e : (pairs t).filterMap (setAt t) = sets t := rfl
  rw [e] at g5 g6 g7 g8
  simp only [z2] at g2 g3 g4
  simp [-List.length_flatMap, -List.map_take, e_ref04_Curves_r0, e_ref04_Curves_r1, e_ref04_Curves_r2, e_ref04_Curves_r3, e_ref04_Curves_r4, e_ref04_Curves_r5, e_ref04_Curves_r6, e_ref04_Curves_r7, e_ref04_Curves_r8, e_ref04_Curves_r9, e_ref04_Curves_r10, e_ref04_Curves_r11, e_ref04_Curves_r12, e_ref04_Curves_r13, e_ref04_Curves_r15, e_ref04_Curves_r17, g1, g2, g3, g4, g5, g6, g7, g8, CurvesD]
end Go.Proofs.Ytcjjdaifpboaaaa
