/-
  Relations of two wells, of both.
-/
import Derived.Test.YtcjjdaifpboaaaaS4
set_option linter.unusedVariables false
set_option linter.unusedSimpArgs false
namespace Go.Proofs.Ytcjjdaifpboaaaa
open Go Go.Abs Go.Trial
variable {σ : Stack}

theorem qN (a b : Nat) : ((a : Int) == (b : Int)) = decide (a = b) := by rw [Bool.eq_iff_iff]; simp; omega
set_option maxHeartbeats 2000000 in
theorem L_rel {s : Surv} (h : Sv s) {a b : Nat} (ha : a < 10) (hb : b < 10) : ∀ (m i : Nat), i + m = s.l.length →
    WL T [1, 2, 3, 22, 23, 24] false f_trial_parted_relation_l10 [(1, .int .i64 a), (2, .int .i64 b), (3, .cref (pv s (Gr s))), (22, .lst s.l.length (s.l.flatMap Seen.enc)), (23, .int .i64 s.l.length), (24, .int .i64 i)] σ
      (fun x e σ' => σ' = σ ∧ if anyB (s.l.drop i) (against s a b) then x = .ret ∧ get e 6 = .int .u8 0 else x = .exit 0)
  | 0, i, hi => by
    refine WL_step e_trial_parted_relation_l10 ?_
    have h1 : ¬ i < s.l.length := by omega
    have h2 : s.l.drop i = [] := List.drop_eq_nil_of_le (by omega)
    simp [-List.length_flatMap, -List.map_take, e_trial_parted_relation_r0, e_trial_parted_relation_r1, e_trial_parted_relation_r2, e_trial_parted_relation_r3, e_trial_parted_relation_r4, e_trial_parted_relation_r5, e_trial_parted_relation_r6, e_trial_parted_relation_r7, e_trial_parted_relation_r8, e_trial_parted_relation_r9, e_trial_parted_relation_r11, h1, h2, anyB]
  | m + 1, i, hi => by
    refine WL_step e_trial_parted_relation_l10 ?_
    have h1 : i < s.l.length := by omega
    obtain ⟨x, hx⟩ : ∃ x, s.l[i]? = some x := ⟨_, List.getElem?_eq_getElem h1⟩
    have hn := h.n
    have hw := h.w
    have h4 := wnext h1 (by omega)
    have hv := h.l x (List.mem_of_getElem? hx)
    have ih := L_rel h ha hb m (i + 1) (by omega)
    have h2 := flat_at (f := Seen.enc) (w := 4) (fun _ => rfl) hx
    have hA := fun σ => @C_apart σ s x
    have e1 : anyB (s.l.drop i) (against s a b) = (against s a b x || anyB (s.l.drop (i + 1)) (against s a b)) := by rw [dropS hx]; rfl
    rw [e1]
    obtain ⟨f, t, d⟩ := x
    obtain ⟨F, rfl, hF⟩ := nat_of hv.1 hw.2
    obtain ⟨U, rfl, hU⟩ := nat_of hv.2.1 hw.2
    have a1 := pv_at (s := s) (g := Gr s) hF
    have a2 := pv_at (s := s) (g := Gr s) hU
    have b1 := pv_at (s := s) (g := Gr s) ha
    have b2 := pv_at (s := s) (g := Gr s) hb
    have lF : (F : Int) < 10 := by omega
    have lU : (U : Int) < 10 := by omega
    have la : (a : Int) < 10 := by omega
    have lb : (b : Int) < 10 := by omega
    have a3 := @pv_len s (Gr s)
    have t3 : (pv s (Gr s)).take 3 = s.enc := rfl
    simp only [Seen.enc] at hA h2
    cases hg : agin s ⟨F, U, d⟩
    · have e2 : against s a b ⟨F, U, d⟩ = false := by simp [against, hg]
      rw [hg] at hA
      rw [e2, Bool.false_or]
      simp [-List.length_flatMap, -List.map_take, e_trial_parted_relation_r0, e_trial_parted_relation_r1, e_trial_parted_relation_r2, e_trial_parted_relation_r3, e_trial_parted_relation_r4, e_trial_parted_relation_r5, e_trial_parted_relation_r6, e_trial_parted_relation_r7, e_trial_parted_relation_r8, e_trial_parted_relation_r9, e_trial_parted_relation_r11, h1, h2, h4, hA, lF, lU, a1, a2, a3, t3]
      exact WL.to ih (by simp) rfl fun x e σ' hh => hh
    · rw [hg] at hA
      have e2 : against s a b ⟨F, U, d⟩ = ((decide (Gr s F = Gr s a) && decide (Gr s U = Gr s b)) || (decide (Gr s F = Gr s b) && decide (Gr s U = Gr s a))) := by simp [against, hg]
      rw [e2]
      obtain ⟨p1, hp1⟩ : ∃ p, p = decide (Gr s F = Gr s a) := ⟨_, rfl⟩
      obtain ⟨p2, hp2⟩ : ∃ p, p = decide (Gr s U = Gr s b) := ⟨_, rfl⟩
      obtain ⟨p3, hp3⟩ : ∃ p, p = decide (Gr s F = Gr s b) := ⟨_, rfl⟩
      obtain ⟨p4, hp4⟩ : ∃ p, p = decide (Gr s U = Gr s a) := ⟨_, rfl⟩
      have q1 : ((Gr s F : Int) == (Gr s a : Int)) = p1 := by rw [qN, hp1]
      have q2 : ((Gr s U : Int) == (Gr s b : Int)) = p2 := by rw [qN, hp2]
      have q3 : ((Gr s F : Int) == (Gr s b : Int)) = p3 := by rw [qN, hp3]
      have q4 : ((Gr s U : Int) == (Gr s a : Int)) = p4 := by rw [qN, hp4]
      rw [← hp1, ← hp2, ← hp3, ← hp4]
      clear hp1 hp2 hp3 hp4 e2
      cases p1
      · cases p3
        · rw [show (false && p2 || false && p4) = false by simp, Bool.false_or]
          simp [-List.length_flatMap, -List.map_take, e_trial_parted_relation_r0, e_trial_parted_relation_r1, e_trial_parted_relation_r2, e_trial_parted_relation_r3, e_trial_parted_relation_r4, e_trial_parted_relation_r5, e_trial_parted_relation_r6, e_trial_parted_relation_r7, e_trial_parted_relation_r8, e_trial_parted_relation_r9, e_trial_parted_relation_r11, h1, h2, h4, hA, lF, lU, la, lb, a1, a2, b1, b2, a3, t3, q1, q2, q3, q4]
          exact WL.to ih (by simp) rfl fun x e σ' hh => hh
        · cases p4
          · rw [show (false && p2 || true && false) = false by simp, Bool.false_or]
            simp [-List.length_flatMap, -List.map_take, e_trial_parted_relation_r0, e_trial_parted_relation_r1, e_trial_parted_relation_r2, e_trial_parted_relation_r3, e_trial_parted_relation_r4, e_trial_parted_relation_r5, e_trial_parted_relation_r6, e_trial_parted_relation_r7, e_trial_parted_relation_r8, e_trial_parted_relation_r9, e_trial_parted_relation_r11, h1, h2, h4, hA, lF, lU, la, lb, a1, a2, b1, b2, a3, t3, q1, q2, q3, q4]
            exact WL.to ih (by simp) rfl fun x e σ' hh => hh
          · rw [show (false && p2 || true && true) = true by simp, Bool.true_or]
            simp [-List.length_flatMap, -List.map_take, e_trial_parted_relation_r0, e_trial_parted_relation_r1, e_trial_parted_relation_r2, e_trial_parted_relation_r3, e_trial_parted_relation_r4, e_trial_parted_relation_r5, e_trial_parted_relation_r6, e_trial_parted_relation_r7, e_trial_parted_relation_r8, e_trial_parted_relation_r9, e_trial_parted_relation_r11, h1, h2, h4, hA, lF, lU, la, lb, a1, a2, b1, b2, a3, t3, q1, q2, q3, q4]
      · cases p2
        · cases p3
          · rw [show (true && false || false && p4) = false by simp, Bool.false_or]
            simp [-List.length_flatMap, -List.map_take, e_trial_parted_relation_r0, e_trial_parted_relation_r1, e_trial_parted_relation_r2, e_trial_parted_relation_r3, e_trial_parted_relation_r4, e_trial_parted_relation_r5, e_trial_parted_relation_r6, e_trial_parted_relation_r7, e_trial_parted_relation_r8, e_trial_parted_relation_r9, e_trial_parted_relation_r11, h1, h2, h4, hA, lF, lU, la, lb, a1, a2, b1, b2, a3, t3, q1, q2, q3, q4]
            exact WL.to ih (by simp) rfl fun x e σ' hh => hh
          · cases p4
            · rw [show (true && false || true && false) = false by simp, Bool.false_or]
              simp [-List.length_flatMap, -List.map_take, e_trial_parted_relation_r0, e_trial_parted_relation_r1, e_trial_parted_relation_r2, e_trial_parted_relation_r3, e_trial_parted_relation_r4, e_trial_parted_relation_r5, e_trial_parted_relation_r6, e_trial_parted_relation_r7, e_trial_parted_relation_r8, e_trial_parted_relation_r9, e_trial_parted_relation_r11, h1, h2, h4, hA, lF, lU, la, lb, a1, a2, b1, b2, a3, t3, q1, q2, q3, q4]
              exact WL.to ih (by simp) rfl fun x e σ' hh => hh
            · rw [show (true && false || true && true) = true by simp, Bool.true_or]
              simp [-List.length_flatMap, -List.map_take, e_trial_parted_relation_r0, e_trial_parted_relation_r1, e_trial_parted_relation_r2, e_trial_parted_relation_r3, e_trial_parted_relation_r4, e_trial_parted_relation_r5, e_trial_parted_relation_r6, e_trial_parted_relation_r7, e_trial_parted_relation_r8, e_trial_parted_relation_r9, e_trial_parted_relation_r11, h1, h2, h4, hA, lF, lU, la, lb, a1, a2, b1, b2, a3, t3, q1, q2, q3, q4]
        · rw [show (true && true || p3 && p4) = true by simp, Bool.true_or]
          simp [-List.length_flatMap, -List.map_take, e_trial_parted_relation_r0, e_trial_parted_relation_r1, e_trial_parted_relation_r2, e_trial_parted_relation_r3, e_trial_parted_relation_r4, e_trial_parted_relation_r5, e_trial_parted_relation_r6, e_trial_parted_relation_r7, e_trial_parted_relation_r8, e_trial_parted_relation_r9, e_trial_parted_relation_r11, h1, h2, h4, hA, lF, lU, la, lb, a1, a2, b1, b2, a3, t3, q1, q2, q3, q4]
theorem C_relation {s : Surv} (h : Sv s) {a b : Nat} (ha : a < 10) (hb : b < 10) : lim T (.call false i_trial_parted_relation [.agg (pv s (Gr s)), .int .i64 a, .int .i64 b] σ) = some (.val (.int .u8 (relOf s a b)) σ) := by
  refine call_of T_trial_parted_relation e_trial_parted_relation rfl ?_
  have b1 := pv_at (s := s) (g := Gr s) ha
  have b2 := pv_at (s := s) (g := Gr s) hb
  have la : (a : Int) < 10 := by omega
  have lb : (b : Int) < 10 := by omega
  have a3 := @pv_len s (Gr s)
  have hn := h.n
  unfold relOf
  by_cases hq : Gr s a = Gr s b
  · simp [-List.length_flatMap, -List.map_take, e_trial_parted_relation_r0, e_trial_parted_relation_r1, e_trial_parted_relation_r2, e_trial_parted_relation_r3, e_trial_parted_relation_r4, e_trial_parted_relation_r5, e_trial_parted_relation_r6, e_trial_parted_relation_r7, e_trial_parted_relation_r8, e_trial_parted_relation_r9, e_trial_parted_relation_r11, la, lb, b1, b2, a3, qN, hq]
  · have t4 : (pv s (Gr s)).drop 2 = .lst s.l.length (s.l.flatMap Seen.enc) :: (pv s (Gr s)).drop 3 := rfl
    simp [-List.length_flatMap, -List.map_take, e_trial_parted_relation_r0, e_trial_parted_relation_r1, e_trial_parted_relation_r2, e_trial_parted_relation_r3, e_trial_parted_relation_r4, e_trial_parted_relation_r5, e_trial_parted_relation_r6, e_trial_parted_relation_r7, e_trial_parted_relation_r8, e_trial_parted_relation_r9, e_trial_parted_relation_r11, la, lb, b1, b2, a3, qN, hq, t4]
    refine WL.to (L_rel (σ := [] :: σ) h ha hb s.l.length 0 (by omega)) (by simp) rfl ?_
    rintro x e σ' ⟨rfl, hh⟩
    rw [List.drop_zero] at hh
    cases hA : anyB s.l (against s a b)
    · rw [hA] at hh
      simp only [Bool.false_eq_true, if_false] at hh
      subst hh
      simp [-List.length_flatMap, -List.map_take, e_trial_parted_relation_r0, e_trial_parted_relation_r1, e_trial_parted_relation_r2, e_trial_parted_relation_r3, e_trial_parted_relation_r4, e_trial_parted_relation_r5, e_trial_parted_relation_r6, e_trial_parted_relation_r7, e_trial_parted_relation_r8, e_trial_parted_relation_r9, e_trial_parted_relation_r11, hq]
    · rw [hA] at hh
      simp only [if_true] at hh
      obtain ⟨rfl, g6⟩ := hh
      simp [g6, hq]

/-! ### The reference's -/

end Go.Proofs.Ytcjjdaifpboaaaa
