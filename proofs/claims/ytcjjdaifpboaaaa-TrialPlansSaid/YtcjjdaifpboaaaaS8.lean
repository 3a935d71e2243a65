/-
  The least plan, of the program: it grows.
-/
import Derived.Test.YtcjjdaifpboaaaaS7
set_option linter.unusedVariables false
set_option linter.unusedSimpArgs false
namespace Go.Proofs.Ytcjjdaifpboaaaa
open Go Go.Abs Go.Trial
variable {σ : Stack}

theorem now_app {l : List Nat} {cs : List D} (h : Now l cs) (w : Nat) : Now (l ++ [w]) (cs.take l.length ++ [.int .i64 w]) := by
  unfold Now at h ⊢
  have hl : (cs.take l.length ++ [D.int .i64 (w : Int)]).length = (l ++ [w]).length := by rw [h]; simp
  rw [← hl, List.take_length, h]
  simp
theorem now_pre {l : List Nat} {cs : List D} {w : Nat} (h : Now (l ++ [w]) cs) : Now l cs := by
  unfold Now at h ⊢
  have := congrArg (List.take l.length) h
  rw [List.take_take] at this
  simp only [List.length_append, List.length_cons, List.length_nil, List.map_append] at this
  rw [show min l.length (l.length + (0 + 1)) = l.length by omega] at this
  rw [this, List.take_left' (by simp)]
def GrowC (s : Surv) (W : Nat) (σ : Stack) (k : Nat) : Prop := ∀ (lo : Nat) (l : List Nat) (v : Nat) (cs : List D) (pre : Stack), lo ≤ W → Now l cs → (∀ x ∈ l, x < W) → l.length + k ≤ W →
  ∃ (v' : Nat) (cs' : List D), Now ((growF W (decS s) k lo l).getD l) cs' ∧
    lim T (.call false i_trial_Plan_3 [.int .i64 lo, .int .i64 k, .ref σ.length 4 0 0, .cref s.enc, .ref σ.length 2 0 0, .ref σ.length 5 0 0] (pre ++ plF s σ.length v cs l.length :: σ)) =
      some (.val (.bool (growF W (decS s) k lo l).isSome) (pre ++ plF s σ.length v' cs' ((growF W (decS s) k lo l).getD l).length :: σ))
theorem grow0 {s : Surv} (h : Sv s) {W : Nat} (hW : s.w = W) : GrowC s W σ 0 := by
  intro lo l v cs pre hlo hn hl hlen
  have hw := h.w
  have hD := C_pl2 (σ := σ) h (v := v) (pre := [] :: pre) hn (fun x hx => by have := hl x hx; omega) (by omega)
  simp only [List.cons_append] at hD
  have k1 := @sg0 σ (plF s σ.length v cs l.length) pre
  have hne : ¬ (pre.length + (σ.length + 1) = σ.length) := by omega
  simp only [growF]
  cases hd : decS s l
  · refine ⟨v, cs, by simpa using hn, ?_⟩
    rw [hd] at hD
    refine call_of T_trial_Plan_3 e_trial_Plan_3 rfl ?_
    simp only [Surv.enc] at hD
    simp [-List.length_flatMap, -List.map_take, e_trial_Plan_3_r0, e_trial_Plan_3_r1, e_trial_Plan_3_r2, e_trial_Plan_3_r3, e_trial_Plan_3_r4, e_trial_Plan_3_r5, e_trial_Plan_3_r6, e_trial_Plan_3_r7, e_trial_Plan_3_r8, e_trial_Plan_3_r9, e_trial_Plan_3_r11, k1, hne, pf4, hD]
  · refine ⟨v, cs, by simpa using hn, ?_⟩
    rw [hd] at hD
    refine call_of T_trial_Plan_3 e_trial_Plan_3 rfl ?_
    simp only [Surv.enc] at hD
    simp [-List.length_flatMap, -List.map_take, e_trial_Plan_3_r0, e_trial_Plan_3_r1, e_trial_Plan_3_r2, e_trial_Plan_3_r3, e_trial_Plan_3_r4, e_trial_Plan_3_r5, e_trial_Plan_3_r6, e_trial_Plan_3_r7, e_trial_Plan_3_r8, e_trial_Plan_3_r9, e_trial_Plan_3_r11, k1, hne, pf4, hD]
theorem L_grow {s : Surv} (h : Sv s) {W : Nat} (hW : s.w = W) {k : Nat} (hk : GrowC s W σ k) {pre : Stack} {l : List Nat} (hl : ∀ x ∈ l, x < W) (hlen : l.length + k + 1 ≤ W) : ∀ (m w v : Nat) (cs : List D), m = W - k - w → Now l cs →
    WL T [1, 3, 4, 5, 9] false f_trial_Plan_3_l10 [(1, .int .i64 (k + 1 : Nat)), (3, .cref s.enc), (4, .ref σ.length 2 0 0), (5, .ref σ.length 5 0 0), (9, .int .i64 w)] ([] :: (pre ++ plF s σ.length v cs l.length :: σ))
      (fun x e σ' => ∃ (v' : Nat) (cs' : List D), Now (((List.range' w m).findSome? fun w => growF W (decS s) k (w + 1) (l ++ [w])).getD l) cs' ∧
        σ' = [] :: (pre ++ plF s σ.length v' cs' (((List.range' w m).findSome? fun w => growF W (decS s) k (w + 1) (l ++ [w])).getD l).length :: σ) ∧
        if ((List.range' w m).findSome? fun w => growF W (decS s) k (w + 1) (l ++ [w])).isSome then x = .ret ∧ get e 8 = .bool true else x = .exit 0)
  | 0, w, v, cs, hm, hn => by
    refine WL_step e_trial_Plan_3_l10 ?_
    have hw := h.w
    have w1 := w64 (n := s.w - ((k : Int) + 1)) (by omega)
    have h1 : ¬ (w : Int) ≤ s.w - ((k : Int) + 1) := by omega
    simp [-List.length_flatMap, -List.map_take, e_trial_Plan_3_r0, e_trial_Plan_3_r1, e_trial_Plan_3_r2, e_trial_Plan_3_r3, e_trial_Plan_3_r4, e_trial_Plan_3_r5, e_trial_Plan_3_r6, e_trial_Plan_3_r7, e_trial_Plan_3_r8, e_trial_Plan_3_r9, e_trial_Plan_3_r11, w1, h1]
    exact ⟨v, cs, hn, rfl⟩
  | m + 1, w, v, cs, hm, hn => by
    refine WL_step e_trial_Plan_3_l10 ?_
    have hw := h.w
    have w1 := w64 (n := s.w - ((k : Int) + 1)) (by omega)
    have w2 := w64 (n := (w : Int) + 1) (by omega)
    have w3 := w64 (n := (k : Int)) (by omega)
    have h1 : (w : Int) ≤ s.w - ((k : Int) + 1) := by omega
    have hn' := now_app hn w
    obtain ⟨v', cs', n1, hC⟩ := hk (w + 1) (l ++ [w]) (v + 1) (cs.take l.length ++ [.int .i64 w]) ([] :: pre) (by omega) hn' (fun x hx => by
      rcases List.mem_append.1 hx with hx | hx
      · exact hl x hx
      · simp at hx; omega) (by simp; omega)
    have k1 := fun F => @sg0 σ F pre
    have k2 := fun F F' => @ss0 σ F F' pre
    have hne : ¬ (pre.length + (σ.length + 1) = σ.length) := by omega
    have hne2 : ¬ (σ.length = pre.length + (σ.length + 1)) := by omega
    have hnl := now_len hn
    have h7 : (l.length + 1) * 8 ≤ room := by unfold room; omega
    rw [List.range'_succ, List.findSome?_cons]
    simp only [List.cons_append, List.length_append, List.length_cons, List.length_nil, Nat.zero_add, Surv.enc] at hC
    rw [show ((w + 1 : Nat) : Int) = (w : Int) + 1 from rfl] at hC
    cases hg : growF W (decS s) k (w + 1) (l ++ [w]) with
    | some r =>
      rw [hg] at hC n1
      simp only [Option.isSome_some, Option.getD_some] at hC n1
      simp [-List.length_flatMap, -List.map_take, e_trial_Plan_3_r0, e_trial_Plan_3_r1, e_trial_Plan_3_r2, e_trial_Plan_3_r3, e_trial_Plan_3_r4, e_trial_Plan_3_r5, e_trial_Plan_3_r6, e_trial_Plan_3_r7, e_trial_Plan_3_r8, e_trial_Plan_3_r9, e_trial_Plan_3_r11, w1, w2, w3, h1, k1, k2, hne, hne2, pf1, pf2, pf5, pfs, hnl, h7, hC]
      exact ⟨v', cs', n1, rfl⟩
    | none =>
      rw [hg] at hC n1
      simp only [Option.isSome_none, Option.getD_none, List.length_append, List.length_cons, List.length_nil, Nat.zero_add] at hC n1
      have ih := L_grow h hW hk (pre := pre) hl hlen m (w + 1) v' cs' (by omega) (now_pre n1)
      have w4 := w64 (n := (l.length : Int)) (by omega)
      simp [-List.length_flatMap, -List.map_take, e_trial_Plan_3_r0, e_trial_Plan_3_r1, e_trial_Plan_3_r2, e_trial_Plan_3_r3, e_trial_Plan_3_r4, e_trial_Plan_3_r5, e_trial_Plan_3_r6, e_trial_Plan_3_r7, e_trial_Plan_3_r8, e_trial_Plan_3_r9, e_trial_Plan_3_r11, w1, w2, w3, h1, k1, k2, hne, hne2, pf1, pf2, pf5, pfs, hnl, h7, hC, w4, pfs2]
      refine WL.to ih (by simp) (by simp) ?_
      exact fun x e σ' hh => hh
theorem growS {s : Surv} (h : Sv s) {W : Nat} (hW : s.w = W) {k : Nat} (hk : GrowC s W σ k) : GrowC s W σ (k + 1) := by
  intro lo l v cs pre hlo hn hl hlen
  have hw := h.w
  obtain ⟨x, e, σ', h1, v', cs', h2, h3, h4⟩ := L_grow h hW hk (pre := pre) hl (by omega) (W - k - lo) lo v cs rfl hn
  have e0 : growF W (decS s) (k + 1) lo l = (List.range' lo (W - k - lo)).findSome? fun w => growF W (decS s) k (w + 1) (l ++ [w]) := rfl
  rw [← e0] at h2 h3 h4
  refine ⟨v', cs', h2, ?_⟩
  refine call_to T_trial_Plan_3 e_trial_Plan_3 rfl (by simp) ?_
  have h0 : ¬ ((k : Int) + 1 = 0) := by omega
  generalize growF W (decS s) (k + 1) lo l = q at *
  have hWL : WL T [1, 3, 4, 5, 9] false f_trial_Plan_3_l10 [(1, .int .i64 (k + 1 : Nat)), (3, .cref s.enc), (4, .ref σ.length 2 0 0), (5, .ref σ.length 5 0 0), (9, .int .i64 lo)] ([] :: (pre ++ plF s σ.length v cs l.length :: σ))
      (fun x e σ' => σ' = [] :: (pre ++ plF s σ.length v' cs' (q.getD l).length :: σ) ∧ if q.isSome then x = .ret ∧ get e 8 = .bool true else x = .exit 0) := ⟨x, e, σ', h1, h3, h4⟩
  simp [-List.length_flatMap, -List.map_take, e_trial_Plan_3_r0, e_trial_Plan_3_r1, e_trial_Plan_3_r2, e_trial_Plan_3_r3, e_trial_Plan_3_r4, e_trial_Plan_3_r5, e_trial_Plan_3_r6, e_trial_Plan_3_r7, e_trial_Plan_3_r8, e_trial_Plan_3_r9, e_trial_Plan_3_r11, h0]
  refine WL.to hWL (by simp) rfl ?_
  clear h1 h3 h4
  rintro x e σ' ⟨rfl, hh⟩
  cases hq : q.isSome
  · rw [hq] at hh
    simp only [Bool.false_eq_true, if_false] at hh
    subst hh
    simp [-List.length_flatMap, -List.map_take, e_trial_Plan_3_r0, e_trial_Plan_3_r1, e_trial_Plan_3_r2, e_trial_Plan_3_r3, e_trial_Plan_3_r4, e_trial_Plan_3_r5, e_trial_Plan_3_r6, e_trial_Plan_3_r7, e_trial_Plan_3_r8, e_trial_Plan_3_r9, e_trial_Plan_3_r11]
  · rw [hq] at hh
    simp only [if_true] at hh
    obtain ⟨rfl, g8⟩ := hh
    simp [g8]
theorem grow_all {s : Surv} (h : Sv s) {W : Nat} (hW : s.w = W) : ∀ k, GrowC s W σ k
  | 0 => grow0 h hW
  | k + 1 => growS h hW (grow_all h hW k)
end Go.Proofs.Ytcjjdaifpboaaaa
