/-
  The drawdown: of the reference; of the program, with its errors. The widest of some flows.
-/
import Derived.Test.YtcjjdaifpboaaaaH7
set_option linter.unusedVariables false
set_option linter.unusedSimpArgs false
namespace Go.Proofs.Ytcjjdaifpboaaaa
open Go Go.Abs Go.Trial
variable {σ : Stack}

def drE (t : Test) (q : Int) (acc : List Rg) : Env := [(1, .int .i64 q), (2, .cref t.enc), (4, .own 0 z2), (6, .own 0 (spanL acc).enc), (7, .bool !acc.isEmpty)]
def drQ (t : Test) (q : Int) (acc : List Rg) (e : Env) : Prop := get e 1 = .int .i64 q ∧ get e 2 = .cref t.enc ∧ get e 4 = .own 0 z2 ∧ get e 6 = .own 0 (spanL acc).enc ∧ get e 7 = .bool !acc.isEmpty

theorem L_Dc {t : Test} (h : Tv t) {q : Int} (hq : 0 ≤ q ∧ q ≤ 1000) {b : Int} (hb : t.b.lo ≤ b ∧ b ≤ t.b.hi) : ∀ (m : Nat) (c : Int) (acc : List Rg), t.c.lo ≤ c → (cRow t b c).length = m →
    WL T [1, 2, 4, 6, 7, 8, 9] false f_ref04_Drawdown_l15 (drE t q acc ++ [(8, .int .i64 b), (9, .int .i64 c)]) σ
      (fun x' e σ' => σ' = σ ∧ x' = .exit 2 ∧ drQ t q (acc ++ ((cRow t b c).filterMap (setAt t)).map (shift q)) e ∧ get e 8 = .int .i64 b)
  | 0, c, acc, hc0, hm => by
    refine WL_step e_ref04_Drawdown_l15 ?_
    by_cases hc : c ≤ t.c.hi
    · rw [cRow_cons hc] at hm; cases hm
    · simp [-List.length_flatMap, -List.map_take, e_ref04_Drawdown_r0, e_ref04_Drawdown_r1, e_ref04_Drawdown_r2, e_ref04_Drawdown_r3, e_ref04_Drawdown_r4, e_ref04_Drawdown_r5, e_ref04_Drawdown_r6, e_ref04_Drawdown_r7, e_ref04_Drawdown_r8, e_ref04_Drawdown_r9, e_ref04_Drawdown_r10, e_ref04_Drawdown_r11, e_ref04_Drawdown_r12, e_ref04_Drawdown_r13, e_ref04_Drawdown_r14, e_ref04_Drawdown_r16, e_ref04_Drawdown_r18, drE, drQ, hc, cRow_nil (show t.c.hi < c by omega)]
  | m + 1, c, acc, hc0, hm => by
    refine WL_step e_ref04_Drawdown_l15 ?_
    by_cases hc : c ≤ t.c.hi
    rotate_left
    · rw [cRow_nil (by omega)] at hm; cases hm
    rw [cRow_cons hc] at hm
    simp only [List.length_cons, Nat.add_right_cancel_iff] at hm
    have hC := h.c
    have w0 := w64 (n := c + 1) (by omega)
    have hB : BC t b c := ⟨hb, by omega, hc⟩
    have hS := fun σ => @C_Set σ t h b c hB
    have hp : (b, c) ∈ pairs t := by
      simp only [pairs, List.mem_flatMap, List.mem_map]
      exact ⟨b, mem_upto hb.1 hb.2, c, mem_upto (by omega) hc, rfl⟩
    cases hx : setAt t (b, c) with
    | none =>
      have hne : (setOf t b c).hi < (setOf t b c).lo := by
        unfold setAt at hx
        split at hx
        · cases hx
        · rename_i g; simpa [Rg.ne] using g
      have ih := L_Dc h hq hb m (c + 1) acc (by omega) hm
      rw [cRow_cons hc, List.filterMap_cons, hx]
      simp [-List.length_flatMap, -List.map_take, e_ref04_Drawdown_r0, e_ref04_Drawdown_r1, e_ref04_Drawdown_r2, e_ref04_Drawdown_r3, e_ref04_Drawdown_r4, e_ref04_Drawdown_r5, e_ref04_Drawdown_r6, e_ref04_Drawdown_r7, e_ref04_Drawdown_r8, e_ref04_Drawdown_r9, e_ref04_Drawdown_r10, e_ref04_Drawdown_r11, e_ref04_Drawdown_r12, e_ref04_Drawdown_r13, e_ref04_Drawdown_r14, e_ref04_Drawdown_r16, e_ref04_Drawdown_r18, drE, hc, hS, hne, w0]
      simp only [drE] at ih
      exact WL.to ih (by simp) rfl fun x e σ' hh => hh
    | some x =>
      have hne : (setOf t b c).lo ≤ (setOf t b c).hi := by
        unfold setAt at hx
        split at hx
        · rename_i g; simpa [Rg.ne] using g
        · cases hx
      have hne' : ¬ (setOf t b c).hi < (setOf t b c).lo := by omega
      have hx' : x = (⟨0, b, c⟩, setOf t b c) := by simp [setAt, Rg.ne, hne] at hx; exact hx.symm
      subst hx'
      have hin := mem_sets hp hne
      have hok := sets_ok h hin
      have ih := L_Dc h hq hb m (c + 1) (acc ++ [shift q (⟨0, b, c⟩, setOf t b c)]) (by omega) hm
      rw [cRow_cons hc, List.filterMap_cons, hx]
      dsimp only at hok
      have d1 := fun σ => @C_Drop σ (setOf t b c).lo b c q (hB.drq h hq (by omega))
      have d2 := fun σ => @C_Drop σ (setOf t b c).hi b c q (hB.drq h hq (by omega))
      generalize setOf t b c = s at *
      cases acc with
      | nil =>
        simp [-List.length_flatMap, -List.map_take, e_ref04_Drawdown_r0, e_ref04_Drawdown_r1, e_ref04_Drawdown_r2, e_ref04_Drawdown_r3, e_ref04_Drawdown_r4, e_ref04_Drawdown_r5, e_ref04_Drawdown_r6, e_ref04_Drawdown_r7, e_ref04_Drawdown_r8, e_ref04_Drawdown_r9, e_ref04_Drawdown_r10, e_ref04_Drawdown_r11, e_ref04_Drawdown_r12, e_ref04_Drawdown_r13, e_ref04_Drawdown_r14, e_ref04_Drawdown_r16, e_ref04_Drawdown_r18, drE, hc, hS, hne', w0, d1, d2, C_Span]
        simp only [drE, shift, List.nil_append] at ih
        refine WL.to ih (by simp [spanL]) rfl ?_
        intro x e σ' hh
        simpa [shift] using hh
      | cons y ys =>
        have hs := spanL_snoc (l := y :: ys) (by simp) (shift q (⟨0, b, c⟩, s))
        simp [-List.length_flatMap, -List.map_take, e_ref04_Drawdown_r0, e_ref04_Drawdown_r1, e_ref04_Drawdown_r2, e_ref04_Drawdown_r3, e_ref04_Drawdown_r4, e_ref04_Drawdown_r5, e_ref04_Drawdown_r6, e_ref04_Drawdown_r7, e_ref04_Drawdown_r8, e_ref04_Drawdown_r9, e_ref04_Drawdown_r10, e_ref04_Drawdown_r11, e_ref04_Drawdown_r12, e_ref04_Drawdown_r13, e_ref04_Drawdown_r14, e_ref04_Drawdown_r16, e_ref04_Drawdown_r18, drE, hc, hS, hne', w0, d1, d2, C_Span]
        simp only [shift, List.cons_append] at hs ih
        simp only [drE, hs, span, Rg.enc] at ih
        refine WL.to ih (by simp) rfl ?_
        intro x e σ' hh
        simpa [shift] using hh
theorem L_Db {t : Test} (h : Tv t) {q : Int} (hq : 0 ≤ q ∧ q ≤ 1000) : ∀ (m : Nat) (b : Int) (acc : List Rg), t.b.lo ≤ b → (upto b t.b.hi).length = m →
    WL T [1, 2, 4, 6, 7, 8] false f_ref04_Drawdown_l17 (drE t q acc ++ [(8, .int .i64 b)]) σ
      (fun x' e σ' => σ' = σ ∧ x' = .exit 0 ∧ drQ t q (acc ++ ((bRows t b).filterMap (setAt t)).map (shift q)) e)
  | 0, b, acc, hb0, hm => by
    refine WL_step e_ref04_Drawdown_l17 ?_
    by_cases hc : b ≤ t.b.hi
    · rw [upto_cons hc] at hm; cases hm
    · simp [-List.length_flatMap, -List.map_take, e_ref04_Drawdown_r0, e_ref04_Drawdown_r1, e_ref04_Drawdown_r2, e_ref04_Drawdown_r3, e_ref04_Drawdown_r4, e_ref04_Drawdown_r5, e_ref04_Drawdown_r6, e_ref04_Drawdown_r7, e_ref04_Drawdown_r8, e_ref04_Drawdown_r9, e_ref04_Drawdown_r10, e_ref04_Drawdown_r11, e_ref04_Drawdown_r12, e_ref04_Drawdown_r13, e_ref04_Drawdown_r14, e_ref04_Drawdown_r16, e_ref04_Drawdown_r18, drE, drQ, hc, bRows_nil (show t.b.hi < b by omega)]
  | m + 1, b, acc, hb0, hm => by
    refine WL_step e_ref04_Drawdown_l17 ?_
    by_cases hc : b ≤ t.b.hi
    rotate_left
    · rw [upto_nil (by omega)] at hm; cases hm
    rw [upto_cons hc] at hm
    simp only [List.length_cons, Nat.add_right_cancel_iff] at hm
    have hB := h.b
    have w0 := w64 (n := b + 1) (by omega)
    simp [-List.length_flatMap, -List.map_take, e_ref04_Drawdown_r0, e_ref04_Drawdown_r1, e_ref04_Drawdown_r2, e_ref04_Drawdown_r3, e_ref04_Drawdown_r4, e_ref04_Drawdown_r5, e_ref04_Drawdown_r6, e_ref04_Drawdown_r7, e_ref04_Drawdown_r8, e_ref04_Drawdown_r9, e_ref04_Drawdown_r10, e_ref04_Drawdown_r11, e_ref04_Drawdown_r12, e_ref04_Drawdown_r13, e_ref04_Drawdown_r14, e_ref04_Drawdown_r16, e_ref04_Drawdown_r18, drE, hc]
    have hi := L_Dc (σ := σ) h hq ⟨hb0, hc⟩ _ t.c.lo acc (by omega) rfl
    simp only [drE] at hi
    refine WL.to hi (by simp) rfl ?_
    rintro x' e σ' ⟨hs, rfl, ⟨g1, g2, g3, g4, g5⟩, g9⟩
    have hs := hs.symm
    subst hs
    have ih := L_Db h hq m (b + 1) (acc ++ ((cRow t b t.c.lo).filterMap (setAt t)).map (shift q)) (by omega) hm
    rw [bRows_cons hc, List.filterMap_append, List.map_append, ← List.append_assoc]
    generalize acc ++ ((cRow t b t.c.lo).filterMap (setAt t)).map (shift q) = ys at *
    simp only [z2] at g3
    simp [-List.length_flatMap, -List.map_take, e_ref04_Drawdown_r16, g1, g2, g3, g4, g5, g9, w0]
    simp only [drE] at ih
    exact WL.to ih (by simp [z2]) rfl fun x e σ' hh => hh
def drawD (t : Test) (q : Int) : D := .tup [.agg (dOf q (sets t)).enc, .bool !(sets t).isEmpty]
theorem C_Drawdown {t : Test} (h : Tv t) {q : Int} (hq : 0 ≤ q ∧ q ≤ 1000) : lim T (.call false i_ref04_Drawdown [.agg [.int .i64 t.a.lo, .int .i64 t.a.hi, .int .i64 t.b.lo, .int .i64 t.b.hi, .int .i64 t.c.lo, .int .i64 t.c.hi, .lst t.st.length (t.st.flatMap Step.enc)], .int .i64 q] σ) = some (.val (drawD t q) σ) := by
  refine call_of T_ref04_Drawdown e_ref04_Drawdown rfl ?_
  simp [-List.length_flatMap, -List.map_take, e_ref04_Drawdown_r0, e_ref04_Drawdown_r1, e_ref04_Drawdown_r2, e_ref04_Drawdown_r3, e_ref04_Drawdown_r4, e_ref04_Drawdown_r5, e_ref04_Drawdown_r6, e_ref04_Drawdown_r7, e_ref04_Drawdown_r8, e_ref04_Drawdown_r9, e_ref04_Drawdown_r10, e_ref04_Drawdown_r11, e_ref04_Drawdown_r12, e_ref04_Drawdown_r13, e_ref04_Drawdown_r14, e_ref04_Drawdown_r16, e_ref04_Drawdown_r18]
  have hi := L_Db (σ := [] :: σ) h hq _ t.b.lo [] (by omega) rfl
  simp only [drE] at hi
  refine WL.to hi (by simp [z2, spanL]) rfl ?_
  rintro x' e σ' ⟨rfl, rfl, g1, g2, g3, g4, g5⟩
  simp only [List.nil_append, bRows_all] at g4 g5
  have e0 : (pairs t).filterMap (setAt t) = sets t := rfl
  rw [e0] at g4 g5
  have e1 : ((sets t).map (shift q)).isEmpty = (sets t).isEmpty := by cases sets t <;> rfl
  rw [e1] at g5
  simp only [z2] at g3
  simp [-List.length_flatMap, -List.map_take, e_ref04_Drawdown_r0, e_ref04_Drawdown_r1, e_ref04_Drawdown_r2, e_ref04_Drawdown_r3, e_ref04_Drawdown_r4, e_ref04_Drawdown_r5, e_ref04_Drawdown_r6, e_ref04_Drawdown_r7, e_ref04_Drawdown_r8, e_ref04_Drawdown_r9, e_ref04_Drawdown_r10, e_ref04_Drawdown_r11, e_ref04_Drawdown_r12, e_ref04_Drawdown_r13, e_ref04_Drawdown_r14, e_ref04_Drawdown_r16, e_ref04_Drawdown_r18, g1, g2, g3, g4, g5, drawD, dOf]
/-- What the program says of the drawdown at a flow. -/
def drawP (t : Test) (q : Int) : D :=
  if fault t = 0 then (if inn q 0 1000 then (if (sets t).isEmpty then .tup [.agg z2, .int .i64 7] else .tup [.agg (dOf q (sets t)).enc, .int .i64 0]) else .tup [.agg z2, .int .i64 2]) else .tup [.agg z2, .int .i64 (fault t)]
theorem C_drawP {t : Test} (hl : t.st.length ≤ 100000) {q : Int} (hσ : σ ≠ []) : lim T (.call false i_trial_Drawdown [.agg [.int .i64 t.a.lo, .int .i64 t.a.hi, .int .i64 t.b.lo, .int .i64 t.b.hi, .int .i64 t.c.lo, .int .i64 t.c.hi, .lst t.st.length (t.st.flatMap Step.enc)], .int .i64 q] σ) = some (.val (drawP t q) σ) := by
  refine call_of T_trial_Drawdown e_trial_Drawdown rfl ?_
  have hf := fun σ => @C_check σ t hl
  by_cases h0 : fault t = 0
  rotate_left
  · simp [-List.length_flatMap, -List.map_take, e_trial_Drawdown_r0, e_trial_Drawdown_r1, e_trial_Drawdown_r2, e_trial_Drawdown_r3, e_trial_Drawdown_r4, e_trial_Drawdown_r5, e_trial_Drawdown_r6, e_trial_Drawdown_r7, e_trial_Drawdown_r8, e_trial_Drawdown_r9, hf, h0, drawP, z2]
  have h := fault_tv h0
  cases hq : inn q 0 1000
  · simp [-List.length_flatMap, -List.map_take, e_trial_Drawdown_r0, e_trial_Drawdown_r1, e_trial_Drawdown_r2, e_trial_Drawdown_r3, e_trial_Drawdown_r4, e_trial_Drawdown_r5, e_trial_Drawdown_r6, e_trial_Drawdown_r7, e_trial_Drawdown_r8, e_trial_Drawdown_r9, hf, h0, C_within, hq, drawP, z2]
  have hd := fun σ (hσ : σ ≠ []) => @C_drawdown σ t h q (inn_iff.1 hq) hσ
  cases hs : (sets t).isEmpty
  · rw [hs] at hd
    simp [-List.length_flatMap, -List.map_take, e_trial_Drawdown_r0, e_trial_Drawdown_r1, e_trial_Drawdown_r2, e_trial_Drawdown_r3, e_trial_Drawdown_r4, e_trial_Drawdown_r5, e_trial_Drawdown_r6, e_trial_Drawdown_r7, e_trial_Drawdown_r8, e_trial_Drawdown_r9, hf, h0, C_within, hq, hd, drawP, z2, hs]
  · rw [hs] at hd
    simp [-List.length_flatMap, -List.map_take, e_trial_Drawdown_r0, e_trial_Drawdown_r1, e_trial_Drawdown_r2, e_trial_Drawdown_r3, e_trial_Drawdown_r4, e_trial_Drawdown_r5, e_trial_Drawdown_r6, e_trial_Drawdown_r7, e_trial_Drawdown_r8, e_trial_Drawdown_r9, hf, h0, C_within, hq, hd, drawP, z2, hs]
end Go.Proofs.Ytcjjdaifpboaaaa
