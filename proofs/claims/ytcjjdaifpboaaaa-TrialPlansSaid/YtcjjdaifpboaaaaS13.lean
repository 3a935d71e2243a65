/-
  The survey behind a pulse, of the program.
-/
import Derived.Test.YtcjjdaifpboaaaaS12
set_option linter.unusedVariables false
set_option linter.unusedSimpArgs false
namespace Go.Proofs.Ytcjjdaifpboaaaa
open Go Go.Abs Go.Trial
variable {σ : Stack}

def atOf (s : Surv) (ps : List Int) (K w : Nat) : Int := if pAt ps w = pAt ps K then s.lv else s.lv - 1
def pulS (s : Surv) (ps : List Int) (K w : Nat) : Seen := ⟨K, w, ⟨atOf s ps K w, atOf s ps K w⟩⟩
/-- What is seen, from one well on; none: below all drawdowns. -/
def pulF (s : Surv) (ps : List Int) (K : Nat) : Nat → Nat → Option (List Seen)
  | 0, _ => some []
  | m + 1, w => if w = K then pulF s ps K m (w + 1) else if atOf s ps K w < -2000000000 then none else (pulF s ps K m (w + 1)).map (pulS s ps K w :: ·)
def z3v : List D := [.int .i64 0, .int .i64 0, .nils]
theorem C_lessR {a b n : Int} (h1 : -2000000000 ≤ a ∧ a ≤ 2000000000) (h2 : -2000000000 ≤ b ∧ b ≤ 2000000000) (h3 : -2000000000 ≤ n ∧ n ≤ 2000000000) :
    lim T (.call false i_trial_Range_less [.agg [.int .i64 a, .int .i64 b], .int .i64 n] σ) = some (.val (.agg [.int .i64 (a - n), .int .i64 (b - n)]) σ) := by
  refine call_of T_trial_Range_less e_trial_Range_less rfl ?_
  have w1 := w64 (n := a - n) (by omega)
  have w2 := w64 (n := b - n) (by omega)
  simp [-List.length_flatMap, -List.map_take, e_trial_Range_less_r0, e_trial_Range_less_r1, w1, w2]
theorem L_pul {s : Surv} (h : Sv s) {ps : List Int} (hp : (ps.length : Int) = s.w) {q : D} (hqs : q.calm = q ∧ q.strip = q) {K : Nat} (hK : K < ps.length) : ∀ (m w v : Nat) (acc : List Seen), w + m = ps.length → acc.length ≤ 60 + w →
    WL T [1, 2, 3, 6, 9, 41, 42] false f_trial_Pulse_l18 [(1, .int .i64 K), (2, .lst ps.length (ps.flatMap intE)), (3, .cref [.int .i64 s.w, .int .i64 s.lv, q]), (6, .own 0 z3v), (9, .own 0 [.int .i64 s.w, .int .i64 s.lv, .sl σ.length 0 v 0 acc.length 4]), (41, .int .i64 ps.length), (42, .int .i64 w)] ([.cells v (acc.flatMap Seen.enc)] :: σ)
      (fun x e σ' => match pulF s ps K m w with
        | none => x = .ret ∧ (∃ b, σ' = b :: σ) ∧ get e 6 = .own 0 z3v ∧ get e 7 = .int .i64 2
        | some l => ∃ v', x = .exit 0 ∧ σ' = [.cells v' ((acc ++ l).flatMap Seen.enc)] :: σ ∧ get e 2 = .lst ps.length (ps.flatMap intE) ∧ get e 3 = .cref [.int .i64 s.w, .int .i64 s.lv, q] ∧ get e 6 = .own 0 z3v ∧ get e 9 = .own 0 [.int .i64 s.w, .int .i64 s.lv, .sl σ.length 0 v' 0 (acc ++ l).length 4])
  | 0, w, v, acc, hm, ha => by
    refine WL_step e_trial_Pulse_l18 ?_
    have h1 : ¬ w < ps.length := by omega
    simp [-List.length_flatMap, -List.map_take, e_trial_Pulse_r0, e_trial_Pulse_r1, e_trial_Pulse_r2, e_trial_Pulse_r3, e_trial_Pulse_r4, e_trial_Pulse_r5, e_trial_Pulse_r6, e_trial_Pulse_r7, e_trial_Pulse_r8, e_trial_Pulse_r9, e_trial_Pulse_r10, e_trial_Pulse_r11, e_trial_Pulse_r12, e_trial_Pulse_r13, e_trial_Pulse_r14, e_trial_Pulse_r15, e_trial_Pulse_r16, e_trial_Pulse_r17, e_trial_Pulse_r19, e_trial_Pulse_r20, e_trial_Pulse_r21, e_trial_Pulse_r22, e_trial_Pulse_r23, h1, pulF]
  | m + 1, w, v, acc, hm, ha => by
    refine WL_step e_trial_Pulse_l18 ?_
    have h1 : w < ps.length := by omega
    have hw := h.w
    have hlv := h.lv
    have h4 := wnext h1 (by omega)
    obtain ⟨a, hx⟩ : ∃ a, ps[w]? = some a := ⟨_, List.getElem?_eq_getElem h1⟩
    obtain ⟨b, hb⟩ : ∃ a, ps[K]? = some a := ⟨_, List.getElem?_eq_getElem hK⟩
    have a1 := flat_at (f := intE) (w := 1) (fun _ => rfl) hx
    have b1 := flat_at (f := intE) (w := 1) (fun _ => rfl) hb
    simp only [Nat.mul_one] at a1 b1
    have e1 : pulF s ps K (m + 1) w = if w = K then pulF s ps K m (w + 1) else if atOf s ps K w < -2000000000 then none else (pulF s ps K m (w + 1)).map (pulS s ps K w :: ·) := rfl
    rw [e1]
    by_cases c1 : w = K
    · rw [if_pos c1]
      subst c1
      have ih := L_pul h hp hqs hK m (w + 1) v acc (by omega) (by omega)
      obtain ⟨hq1, hq2⟩ := hqs
      simp [-List.length_flatMap, -List.map_take, e_trial_Pulse_r0, e_trial_Pulse_r1, e_trial_Pulse_r2, e_trial_Pulse_r3, e_trial_Pulse_r4, e_trial_Pulse_r5, e_trial_Pulse_r6, e_trial_Pulse_r7, e_trial_Pulse_r8, e_trial_Pulse_r9, e_trial_Pulse_r10, e_trial_Pulse_r11, e_trial_Pulse_r12, e_trial_Pulse_r13, e_trial_Pulse_r14, e_trial_Pulse_r15, e_trial_Pulse_r16, e_trial_Pulse_r17, e_trial_Pulse_r19, e_trial_Pulse_r20, e_trial_Pulse_r21, e_trial_Pulse_r22, e_trial_Pulse_r23, h1, h4, hq1, hq2]
      exact WL.to ih (by simp) rfl fun x e σ' hh => hh
    rw [if_neg c1]
    have c1' : ¬ ((w : Int) = K) := by omega
    have pa : pAt ps w = a := by simp [pAt, hx]
    have pb : pAt ps K = b := by simp [pAt, hb]
    have hL := fun σ => @C_lessR σ s.lv s.lv 1 (by omega) (by omega) (by omega)
    have h7 : (acc.length + 1) * 32 ≤ room := by unfold room; omega
    have h5 := flat_len (f := Seen.enc) (w := 4) (fun _ => rfl) acc
    have h6 := k_self (f := Seen.enc) (w := 4) (fun _ => rfl) acc
    obtain ⟨at', hat⟩ : ∃ z, z = atOf s ps K w := ⟨_, rfl⟩
    have hd : Rg.drops ⟨at', at'⟩ = decide (¬ at' < -2000000000) := by
      have hb : at' ≤ 2000000000 := by rw [hat]; unfold atOf; split <;> omega
      rw [Bool.eq_iff_iff]
      simp [Rg.drops, Rg.right]
      omega
    have ih := L_pul h hp hqs hK m (w + 1) (v + 1) (acc ++ [pulS s ps K w]) (by omega) (by simp; omega)
    have e2 : (acc ++ [pulS s ps K w]).flatMap Seen.enc = acc.flatMap Seen.enc ++ [.int .i64 K, .int .i64 w, .int .i64 at', .int .i64 at'] := by simp [pulS, hat]
    obtain ⟨hq1, hq2⟩ := hqs
    rw [← hat]
    by_cases c3 : at' < -2000000000
    · rw [if_pos c3]
      rw [decide_eq_false (fun h => h c3)] at hd
      by_cases c2 : a = b
      · have e3 : at' = s.lv := by rw [hat]; unfold atOf; rw [pa, pb, if_pos c2]
        subst e3
        have hD := fun σ => @C_drops σ s.lv s.lv
        rw [hd] at hD
        subst c2
        simp [-List.length_flatMap, -List.map_take, e_trial_Pulse_r0, e_trial_Pulse_r1, e_trial_Pulse_r2, e_trial_Pulse_r3, e_trial_Pulse_r4, e_trial_Pulse_r5, e_trial_Pulse_r6, e_trial_Pulse_r7, e_trial_Pulse_r8, e_trial_Pulse_r9, e_trial_Pulse_r10, e_trial_Pulse_r11, e_trial_Pulse_r12, e_trial_Pulse_r13, e_trial_Pulse_r14, e_trial_Pulse_r15, e_trial_Pulse_r16, e_trial_Pulse_r17, e_trial_Pulse_r19, e_trial_Pulse_r20, e_trial_Pulse_r21, e_trial_Pulse_r22, e_trial_Pulse_r23, h1, h4, c1', a1, b1, hK, hD, hq1, hq2, z3v]
      · have e3 : at' = s.lv - 1 := by rw [hat]; unfold atOf; rw [pa, pb, if_neg c2]
        subst e3
        have hD := fun σ => @C_drops σ (s.lv - 1) (s.lv - 1)
        rw [hd] at hD
        simp [-List.length_flatMap, -List.map_take, e_trial_Pulse_r0, e_trial_Pulse_r1, e_trial_Pulse_r2, e_trial_Pulse_r3, e_trial_Pulse_r4, e_trial_Pulse_r5, e_trial_Pulse_r6, e_trial_Pulse_r7, e_trial_Pulse_r8, e_trial_Pulse_r9, e_trial_Pulse_r10, e_trial_Pulse_r11, e_trial_Pulse_r12, e_trial_Pulse_r13, e_trial_Pulse_r14, e_trial_Pulse_r15, e_trial_Pulse_r16, e_trial_Pulse_r17, e_trial_Pulse_r19, e_trial_Pulse_r20, e_trial_Pulse_r21, e_trial_Pulse_r22, e_trial_Pulse_r23, h1, h4, c1', a1, b1, hK, hD, hL, c2, hq1, hq2, z3v]
    · rw [if_neg c3]
      rw [decide_eq_true c3] at hd
      have post : ∀ (x : Abs.Exit) (e : Env) (σ' : Stack), (match pulF s ps K m (w + 1) with
        | none => x = .ret ∧ (∃ b, σ' = b :: σ) ∧ get e 6 = .own 0 z3v ∧ get e 7 = .int .i64 2
        | some l => ∃ v', x = .exit 0 ∧ σ' = [.cells v' (((acc ++ [pulS s ps K w]) ++ l).flatMap Seen.enc)] :: σ ∧ get e 2 = .lst ps.length (ps.flatMap intE) ∧ get e 3 = .cref [.int .i64 s.w, .int .i64 s.lv, q] ∧ get e 6 = .own 0 z3v ∧ get e 9 = .own 0 [.int .i64 s.w, .int .i64 s.lv, .sl σ.length 0 v' 0 ((acc ++ [pulS s ps K w]) ++ l).length 4]) →
        (match (pulF s ps K m (w + 1)).map (pulS s ps K w :: ·) with
        | none => x = .ret ∧ (∃ b, σ' = b :: σ) ∧ get e 6 = .own 0 z3v ∧ get e 7 = .int .i64 2
        | some l => ∃ v', x = .exit 0 ∧ σ' = [.cells v' ((acc ++ l).flatMap Seen.enc)] :: σ ∧ get e 2 = .lst ps.length (ps.flatMap intE) ∧ get e 3 = .cref [.int .i64 s.w, .int .i64 s.lv, q] ∧ get e 6 = .own 0 z3v ∧ get e 9 = .own 0 [.int .i64 s.w, .int .i64 s.lv, .sl σ.length 0 v' 0 (acc ++ l).length 4]) := by
        intro x e σ' hh
        cases hF : pulF s ps K m (w + 1) with
        | none => rw [hF] at hh; exact hh
        | some l =>
          rw [hF] at hh
          have e : (acc ++ [pulS s ps K w]) ++ l = acc ++ pulS s ps K w :: l := by simp
          dsimp only at hh
          rw [e] at hh
          exact hh
      by_cases c2 : a = b
      · have e3 : at' = s.lv := by rw [hat]; unfold atOf; rw [pa, pb, if_pos c2]
        subst e3
        have hD := fun σ => @C_drops σ s.lv s.lv
        rw [hd] at hD
        subst c2
        simp [-List.length_flatMap, -List.map_take, e_trial_Pulse_r0, e_trial_Pulse_r1, e_trial_Pulse_r2, e_trial_Pulse_r3, e_trial_Pulse_r4, e_trial_Pulse_r5, e_trial_Pulse_r6, e_trial_Pulse_r7, e_trial_Pulse_r8, e_trial_Pulse_r9, e_trial_Pulse_r10, e_trial_Pulse_r11, e_trial_Pulse_r12, e_trial_Pulse_r13, e_trial_Pulse_r14, e_trial_Pulse_r15, e_trial_Pulse_r16, e_trial_Pulse_r17, e_trial_Pulse_r19, e_trial_Pulse_r20, e_trial_Pulse_r21, e_trial_Pulse_r22, e_trial_Pulse_r23, h1, h4, c1', a1, b1, hK, hD, h5, h6, h7, hq1, hq2]
        exact WL.to ih (by simp) (by rw [e2]) post
      · have e3 : at' = s.lv - 1 := by rw [hat]; unfold atOf; rw [pa, pb, if_neg c2]
        subst e3
        have hD := fun σ => @C_drops σ (s.lv - 1) (s.lv - 1)
        rw [hd] at hD
        simp [-List.length_flatMap, -List.map_take, e_trial_Pulse_r0, e_trial_Pulse_r1, e_trial_Pulse_r2, e_trial_Pulse_r3, e_trial_Pulse_r4, e_trial_Pulse_r5, e_trial_Pulse_r6, e_trial_Pulse_r7, e_trial_Pulse_r8, e_trial_Pulse_r9, e_trial_Pulse_r10, e_trial_Pulse_r11, e_trial_Pulse_r12, e_trial_Pulse_r13, e_trial_Pulse_r14, e_trial_Pulse_r15, e_trial_Pulse_r16, e_trial_Pulse_r17, e_trial_Pulse_r19, e_trial_Pulse_r20, e_trial_Pulse_r21, e_trial_Pulse_r22, e_trial_Pulse_r23, h1, h4, c1', a1, b1, hK, hD, hL, c2, h5, h6, h7, hq1, hq2]
        exact WL.to ih (by simp) (by rw [e2]) post
end Go.Proofs.Ytcjjdaifpboaaaa
