/-
  The least plan, of the program.
-/
import Derived.Test.YtcjjdaifpboaaaaS8
set_option linter.unusedVariables false
set_option linter.unusedSimpArgs false
namespace Go.Proofs.Ytcjjdaifpboaaaa
open Go Go.Abs Go.Trial
variable {σ : Stack}

theorem decS_full {s : Surv} : decS s (List.range' 0 s.w.toNat) = true := by
  have hp : ∀ a, a < s.w.toNat → puls s (List.range' 0 s.w.toNat) a = true := fun a ha => by
    unfold puls
    rw [anyB_iff]
    exact ⟨a, by simp [List.mem_range'_1, ha], by simp⟩
  have h2 : ∀ (m b a : Nat), a < s.w.toNat → okB s (List.range' 0 s.w.toNat) a m b = true := by
    intro m
    induction m with
    | zero => intro b a _; rfl
    | succ m ih => intro b a ha; simp only [okB, okP, hp a ha, ih (b + 1) a ha, Bool.true_or, Bool.or_true, Bool.and_self]
  have h1 : ∀ (m a : Nat), a + m = s.w.toNat → decF s (List.range' 0 s.w.toNat) m a = true := by
    intro m
    induction m with
    | zero => intro a _; rfl
    | succ m ih => intro a ha; simp only [decF, h2 a 0 a (by omega), ih (a + 1) (by omega), Bool.and_self]
  exact h1 _ 0 (by omega)
theorem L_plan {s : Surv} (h : Sv s) {W : Nat} (hW : s.w = W) : ∀ (m k v : Nat) (cs : List D), m + k = W + 1 → (∀ j, j < k → growF W (decS s) j 0 [] = none) →
    WL T [6, 9, 10] false f_trial_Plan_l12 [(6, .ref σ.length 2 0 0), (9, .ref σ.length 5 0 0), (10, .int .i64 k)] (plF s σ.length v cs 0 :: σ)
      (fun x e σ' => ∃ (v' : Nat) (cs' : List D), Now (planF W (decS s) m k) cs' ∧ σ' = plF s σ.length v' cs' (planF W (decS s) m k).length :: σ ∧ x = .exit 0 ∧ get e 6 = .ref σ.length 2 0 0)
  | 0, k, v, cs, hm, hk => by
    exfalso
    have e0 : s.w.toNat = W := by omega
    have h1 := hk W (by omega)
    have := grow_none W 0 [] (by omega) h1 (List.range' 0 W) (asc_range W 0 (by omega)) (by simp)
    have h2 := @decS_full s
    rw [e0] at h2
    rw [List.nil_append, h2] at this
    cases this
  | m + 1, k, v, cs, hm, hk => by
    refine WL_step e_trial_Plan_l12 ?_
    have hw := h.w
    have w1 := w64 (n := (k : Int) + 1) (by omega)
    obtain ⟨v', cs', n1, hC⟩ := grow_all (σ := σ) h hW k 0 [] v cs [] (by omega) (by simp [Now]) (by simp) (by simp; omega)
    simp only [List.nil_append, List.length_nil, Surv.enc] at hC
    rw [show ((0 : Nat) : Int) = 0 from rfl] at hC
    simp only [planF]
    cases hg : growF W (decS s) k 0 [] with
    | some r =>
      rw [hg] at hC n1
      simp only [Option.isSome_some, Option.getD_some] at hC n1
      simp [-List.length_flatMap, -List.map_take, e_trial_Plan_r0, e_trial_Plan_r1, e_trial_Plan_r2, e_trial_Plan_r3, e_trial_Plan_r4, e_trial_Plan_r5, e_trial_Plan_r6, e_trial_Plan_r7, e_trial_Plan_r8, e_trial_Plan_r9, e_trial_Plan_r10, e_trial_Plan_r11, e_trial_Plan_r13, pf5, hC]
      exact ⟨v', cs', n1, rfl⟩
    | none =>
      rw [hg] at hC n1
      simp only [Option.isSome_none, Option.getD_none, List.length_nil] at hC n1
      have ih := L_plan h hW m (k + 1) v' cs' (by omega) (fun j hj => by
        by_cases e : j = k
        · subst e; exact hg
        · exact hk j (by omega))
      simp [-List.length_flatMap, -List.map_take, e_trial_Plan_r0, e_trial_Plan_r1, e_trial_Plan_r2, e_trial_Plan_r3, e_trial_Plan_r4, e_trial_Plan_r5, e_trial_Plan_r6, e_trial_Plan_r7, e_trial_Plan_r8, e_trial_Plan_r9, e_trial_Plan_r10, e_trial_Plan_r11, e_trial_Plan_r13, pf5, hC, w1]
      refine WL.to ih (by simp) (by simp) ?_
      exact fun x e σ' hh => hh
def planL (s : Surv) : List Nat := planF s.w.toNat (decS s) (s.w.toNat + 1) 0
def planD (s : Surv) : D := if sFault s = 0 then (if 0 ≤ clash s then .tup [.nils, .int .i64 9] else .tup [.lst (planL s).length ((planL s).map fun n : Nat => .int .i64 n), .int .i64 0]) else .tup [.nils, .int .i64 (sFault s)]
theorem C_Plan {s : Surv} {q : D} (hq : q.blur = .lst s.l.length (s.l.flatMap Seen.enc)) (hl : s.l.length ≤ 100000) (hσ : σ ≠ []) : lim T (.call false i_trial_Plan [.agg [.int .i64 s.w, .int .i64 s.lv, q]] σ) = some (.val (planD s) σ) := by
  refine call_of T_trial_Plan e_trial_Plan rfl ?_
  have hc := fun σ => @C_checked σ s (.lst s.l.length (s.l.flatMap Seen.enc)) rfl hl
  simp only [checkedD, z13] at hc
  by_cases h0 : sFault s = 0
  rotate_left
  · simp [-List.length_flatMap, -List.map_take, e_trial_Plan_r0, e_trial_Plan_r1, e_trial_Plan_r2, e_trial_Plan_r3, e_trial_Plan_r4, e_trial_Plan_r5, e_trial_Plan_r6, e_trial_Plan_r7, e_trial_Plan_r8, e_trial_Plan_r9, e_trial_Plan_r10, e_trial_Plan_r11, e_trial_Plan_r13, hq, hc, h0, planD, z13]
  have h := sFault_sv h0
  by_cases h1 : 0 ≤ clash s
  · simp [-List.length_flatMap, -List.map_take, e_trial_Plan_r0, e_trial_Plan_r1, e_trial_Plan_r2, e_trial_Plan_r3, e_trial_Plan_r4, e_trial_Plan_r5, e_trial_Plan_r6, e_trial_Plan_r7, e_trial_Plan_r8, e_trial_Plan_r9, e_trial_Plan_r10, e_trial_Plan_r11, e_trial_Plan_r13, hq, hc, h0, h1, planD, z13]
  have hw := h.w
  obtain ⟨W, hW⟩ : ∃ W : Nat, s.w = W := ⟨s.w.toNat, by omega⟩
  have e0 : s.w.toNat = W := by omega
  have t0 : (pv s (Gr s)).take 13 = pv s (Gr s) := List.take_of_length_le (by rw [pv_len]; exact Nat.le_refl _)
  have a3 := @pv_len s (Gr s)
  simp [-List.length_flatMap, -List.map_take, e_trial_Plan_r0, e_trial_Plan_r1, e_trial_Plan_r2, e_trial_Plan_r3, e_trial_Plan_r4, e_trial_Plan_r5, e_trial_Plan_r6, e_trial_Plan_r7, e_trial_Plan_r8, e_trial_Plan_r9, e_trial_Plan_r10, e_trial_Plan_r11, e_trial_Plan_r13, hq, hc, h0, h1, t0, a3]
  refine WL.to (L_plan (σ := σ) h hW (W + 1) 0 0 [] (by omega) (fun j hj => by omega)) (by simp) (by simp [plF]) ?_
  rintro x e σ' ⟨v', cs', n1, rfl, rfl, g6⟩
  have hp : planF W (decS s) (W + 1) 0 = planL s := by unfold planL; rw [e0]
  rw [hp] at n1 ⊢
  simp [-List.length_flatMap, -List.map_take, e_trial_Plan_r13, g6, pf2, planD, h0, h1]
  rw [frz_tup (by simp) (by omega)]
  have h3 : ¬ σ.length ≤ σ.length - 1 := by have := List.length_pos_iff.2 hσ; omega
  simp only [frzL_cons, frzL_nil]
  rw [frz_sl h3 (cs := cs') (by simp [pf1]) (by omega)]
  have h6 : cs'.take (planL s).length = (planL s).map fun n : Nat => D.int .i64 n := n1
  have h5 : D.cleanL ((planL s).map fun n : Nat => D.int .i64 (n : Int)) = true := by
    generalize planL s = q
    induction q with
    | nil => rfl
    | cons a q ih => simp [D.cleanL, D.clean, ih]
  simp [h6, h5]
end Go.Proofs.Ytcjjdaifpboaaaa
