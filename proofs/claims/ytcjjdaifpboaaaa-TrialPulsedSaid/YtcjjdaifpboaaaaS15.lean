/-
  The survey behind a pulse, of the reference; surveys handed back; the same surveys.
-/
import Derived.Test.YtcjjdaifpboaaaaS14
set_option linter.unusedVariables false
set_option linter.unusedSimpArgs false
namespace Go.Proofs.Ytcjjdaifpboaaaa
open Go Go.Abs Go.Trial
variable {σ : Stack}

theorem L_pulR {s : Surv} (h : Sv s) {ps : List Int} (hp : (ps.length : Int) = s.w) {K : Nat} (hK : K < ps.length) : ∀ (m w v : Nat) (acc : List Seen), w + m = ps.length → acc.length ≤ 60 + w →
    WL T [1, 2, 3, 6, 8, 9] false f_ref04_Pulse_l14 [(1, .int .i64 K), (2, .lst ps.length (ps.flatMap intE)), (3, .cref s.enc), (6, .own 0 z3v), (8, .own 0 [.int .i64 s.w, .int .i64 s.lv, .sl σ.length 0 v 0 acc.length 4]), (9, .int .i64 w)] ([.cells v (acc.flatMap Seen.enc)] :: σ)
      (fun x e σ' => match pulF s ps K m w with
        | none => x = .ret ∧ (∃ b, σ' = b :: σ) ∧ get e 6 = .own 0 z3v ∧ get e 7 = .int .i64 2
        | some l => ∃ v', x = .exit 0 ∧ σ' = [.cells v' ((acc ++ l).flatMap Seen.enc)] :: σ ∧ get e 2 = .lst ps.length (ps.flatMap intE) ∧ get e 3 = .cref s.enc ∧ get e 6 = .own 0 z3v ∧ get e 8 = .own 0 [.int .i64 s.w, .int .i64 s.lv, .sl σ.length 0 v' 0 (acc ++ l).length 4])
  | 0, w, v, acc, hm, ha => by
    refine WL_step e_ref04_Pulse_l14 ?_
    have h1 : ¬ (w : Int) < s.w := by omega
    simp [-List.length_flatMap, -List.map_take, e_ref04_Pulse_r0, e_ref04_Pulse_r1, e_ref04_Pulse_r2, e_ref04_Pulse_r3, e_ref04_Pulse_r4, e_ref04_Pulse_r5, e_ref04_Pulse_r6, e_ref04_Pulse_r7, e_ref04_Pulse_r8, e_ref04_Pulse_r9, e_ref04_Pulse_r10, e_ref04_Pulse_r11, e_ref04_Pulse_r12, e_ref04_Pulse_r13, e_ref04_Pulse_r15, e_ref04_Pulse_r16, e_ref04_Pulse_r17, e_ref04_Pulse_r18, e_ref04_Pulse_r19, h1, pulF]
  | m + 1, w, v, acc, hm, ha => by
    refine WL_step e_ref04_Pulse_l14 ?_
    have h1 : (w : Int) < s.w := by omega
    have h1' : w < ps.length := by omega
    have hw := h.w
    have hlv := h.lv
    have h4 := w64 (n := (w : Int) + 1) (by omega)
    have w2 := w64 (n := s.lv - 1) (by omega)
    obtain ⟨a, hx⟩ : ∃ a, ps[w]? = some a := ⟨_, List.getElem?_eq_getElem h1'⟩
    obtain ⟨b, hb⟩ : ∃ a, ps[K]? = some a := ⟨_, List.getElem?_eq_getElem hK⟩
    have a1 := flat_at (f := intE) (w := 1) (fun _ => rfl) hx
    have b1 := flat_at (f := intE) (w := 1) (fun _ => rfl) hb
    simp only [Nat.mul_one] at a1 b1
    have e1 : pulF s ps K (m + 1) w = if w = K then pulF s ps K m (w + 1) else if atOf s ps K w < -2000000000 then none else (pulF s ps K m (w + 1)).map (pulS s ps K w :: ·) := rfl
    rw [e1]
    by_cases c1 : w = K
    · rw [if_pos c1]
      subst c1
      have ih := L_pulR h hp hK m (w + 1) v acc (by omega) (by omega)
      simp [-List.length_flatMap, -List.map_take, e_ref04_Pulse_r0, e_ref04_Pulse_r1, e_ref04_Pulse_r2, e_ref04_Pulse_r3, e_ref04_Pulse_r4, e_ref04_Pulse_r5, e_ref04_Pulse_r6, e_ref04_Pulse_r7, e_ref04_Pulse_r8, e_ref04_Pulse_r9, e_ref04_Pulse_r10, e_ref04_Pulse_r11, e_ref04_Pulse_r12, e_ref04_Pulse_r13, e_ref04_Pulse_r15, e_ref04_Pulse_r16, e_ref04_Pulse_r17, e_ref04_Pulse_r18, e_ref04_Pulse_r19, h1, h4]
      exact WL.to ih (by simp) rfl fun x e σ' hh => hh
    rw [if_neg c1]
    have c1' : ¬ ((w : Int) = K) := by omega
    have pa : pAt ps w = a := by simp [pAt, hx]
    have pb : pAt ps K = b := by simp [pAt, hb]
    have h7 : (acc.length + 1) * 32 ≤ room := by unfold room; omega
    have h5 := flat_len (f := Seen.enc) (w := 4) (fun _ => rfl) acc
    have h6 := k_self (f := Seen.enc) (w := 4) (fun _ => rfl) acc
    obtain ⟨at', hat⟩ : ∃ z, z = atOf s ps K w := ⟨_, rfl⟩
    have ih := L_pulR h hp hK m (w + 1) (v + 1) (acc ++ [pulS s ps K w]) (by omega) (by simp; omega)
    have e2 : (acc ++ [pulS s ps K w]).flatMap Seen.enc = acc.flatMap Seen.enc ++ [.int .i64 K, .int .i64 w, .int .i64 at', .int .i64 at'] := by simp [pulS, hat]
    rw [← hat]
    by_cases c3 : at' < -2000000000
    · rw [if_pos c3]
      by_cases c2 : a = b
      · have e3 : at' = s.lv := by rw [hat]; unfold atOf; rw [pa, pb, if_pos c2]
        subst e3
        subst c2
        simp [-List.length_flatMap, -List.map_take, e_ref04_Pulse_r0, e_ref04_Pulse_r1, e_ref04_Pulse_r2, e_ref04_Pulse_r3, e_ref04_Pulse_r4, e_ref04_Pulse_r5, e_ref04_Pulse_r6, e_ref04_Pulse_r7, e_ref04_Pulse_r8, e_ref04_Pulse_r9, e_ref04_Pulse_r10, e_ref04_Pulse_r11, e_ref04_Pulse_r12, e_ref04_Pulse_r13, e_ref04_Pulse_r15, e_ref04_Pulse_r16, e_ref04_Pulse_r17, e_ref04_Pulse_r18, e_ref04_Pulse_r19, h1, h1', h4, c1', a1, b1, hK, c3, z3v]
      · have e3 : at' = s.lv - 1 := by rw [hat]; unfold atOf; rw [pa, pb, if_neg c2]
        subst e3
        simp [-List.length_flatMap, -List.map_take, e_ref04_Pulse_r0, e_ref04_Pulse_r1, e_ref04_Pulse_r2, e_ref04_Pulse_r3, e_ref04_Pulse_r4, e_ref04_Pulse_r5, e_ref04_Pulse_r6, e_ref04_Pulse_r7, e_ref04_Pulse_r8, e_ref04_Pulse_r9, e_ref04_Pulse_r10, e_ref04_Pulse_r11, e_ref04_Pulse_r12, e_ref04_Pulse_r13, e_ref04_Pulse_r15, e_ref04_Pulse_r16, e_ref04_Pulse_r17, e_ref04_Pulse_r18, e_ref04_Pulse_r19, h1, h1', h4, c1', a1, b1, hK, c2, w2, c3, z3v]
    · rw [if_neg c3]
      have post : ∀ (x : Abs.Exit) (e : Env) (σ' : Stack), (match pulF s ps K m (w + 1) with
        | none => x = .ret ∧ (∃ b, σ' = b :: σ) ∧ get e 6 = .own 0 z3v ∧ get e 7 = .int .i64 2
        | some l => ∃ v', x = .exit 0 ∧ σ' = [.cells v' (((acc ++ [pulS s ps K w]) ++ l).flatMap Seen.enc)] :: σ ∧ get e 2 = .lst ps.length (ps.flatMap intE) ∧ get e 3 = .cref s.enc ∧ get e 6 = .own 0 z3v ∧ get e 8 = .own 0 [.int .i64 s.w, .int .i64 s.lv, .sl σ.length 0 v' 0 ((acc ++ [pulS s ps K w]) ++ l).length 4]) →
        (match (pulF s ps K m (w + 1)).map (pulS s ps K w :: ·) with
        | none => x = .ret ∧ (∃ b, σ' = b :: σ) ∧ get e 6 = .own 0 z3v ∧ get e 7 = .int .i64 2
        | some l => ∃ v', x = .exit 0 ∧ σ' = [.cells v' ((acc ++ l).flatMap Seen.enc)] :: σ ∧ get e 2 = .lst ps.length (ps.flatMap intE) ∧ get e 3 = .cref s.enc ∧ get e 6 = .own 0 z3v ∧ get e 8 = .own 0 [.int .i64 s.w, .int .i64 s.lv, .sl σ.length 0 v' 0 (acc ++ l).length 4]) := by
        intro x e σ' hh
        cases hF : pulF s ps K m (w + 1) with
        | none => rw [hF] at hh; exact hh
        | some l =>
          rw [hF] at hh
          have e : (acc ++ [pulS s ps K w]) ++ l = acc ++ pulS s ps K w :: l := by simp
          dsimp only at hh
          rw [e] at hh
          exact hh
      by_cases c2 : a = b
      · have e3 : at' = s.lv := by rw [hat]; unfold atOf; rw [pa, pb, if_pos c2]
        subst e3
        subst c2
        simp [-List.length_flatMap, -List.map_take, e_ref04_Pulse_r0, e_ref04_Pulse_r1, e_ref04_Pulse_r2, e_ref04_Pulse_r3, e_ref04_Pulse_r4, e_ref04_Pulse_r5, e_ref04_Pulse_r6, e_ref04_Pulse_r7, e_ref04_Pulse_r8, e_ref04_Pulse_r9, e_ref04_Pulse_r10, e_ref04_Pulse_r11, e_ref04_Pulse_r12, e_ref04_Pulse_r13, e_ref04_Pulse_r15, e_ref04_Pulse_r16, e_ref04_Pulse_r17, e_ref04_Pulse_r18, e_ref04_Pulse_r19, h1, h1', h4, c1', a1, b1, hK, h5, h6, h7, c3]
        exact WL.to ih (by simp) (by rw [e2]) post
      · have e3 : at' = s.lv - 1 := by rw [hat]; unfold atOf; rw [pa, pb, if_neg c2]
        subst e3
        simp [-List.length_flatMap, -List.map_take, e_ref04_Pulse_r0, e_ref04_Pulse_r1, e_ref04_Pulse_r2, e_ref04_Pulse_r3, e_ref04_Pulse_r4, e_ref04_Pulse_r5, e_ref04_Pulse_r6, e_ref04_Pulse_r7, e_ref04_Pulse_r8, e_ref04_Pulse_r9, e_ref04_Pulse_r10, e_ref04_Pulse_r11, e_ref04_Pulse_r12, e_ref04_Pulse_r13, e_ref04_Pulse_r15, e_ref04_Pulse_r16, e_ref04_Pulse_r17, e_ref04_Pulse_r18, e_ref04_Pulse_r19, h1, h1', h4, c1', a1, b1, hK, w2, c2, h5, h6, h7, c3]
        exact WL.to ih (by simp) (by rw [e2]) post
theorem C_PulseR {s : Surv} (h : Sv s) (hσ : σ ≠ []) {k : Int} {ps : List Int} (hpl : ps.length ≤ 1000) : lim T (.call false i_ref04_Pulse [.agg [.int .i64 s.w, .int .i64 s.lv, .lst s.l.length (s.l.flatMap Seen.enc)], .int .i64 k, .lst ps.length (ps.flatMap intE)] σ) = some (.val (pulO (pulR s k ps)) σ) := by
  refine call_of T_ref04_Pulse e_ref04_Pulse rfl ?_
  have hw := h.w
  have w1 := w64 (n := s.w - 1) (by omega)
  by_cases c1 : inn k 0 (s.w - 1) = true
  rotate_left
  · rw [Bool.not_eq_true] at c1
    simp [-List.length_flatMap, -List.map_take, e_ref04_Pulse_r0, e_ref04_Pulse_r1, e_ref04_Pulse_r2, e_ref04_Pulse_r3, e_ref04_Pulse_r4, e_ref04_Pulse_r5, e_ref04_Pulse_r6, e_ref04_Pulse_r7, e_ref04_Pulse_r8, e_ref04_Pulse_r9, e_ref04_Pulse_r10, e_ref04_Pulse_r11, e_ref04_Pulse_r12, e_ref04_Pulse_r13, e_ref04_Pulse_r15, e_ref04_Pulse_r16, e_ref04_Pulse_r17, e_ref04_Pulse_r18, e_ref04_Pulse_r19, C_In, w1, c1, pulR, pulO, z3v]
  by_cases c2 : (ps.length : Int) = s.w
  rotate_left
  · simp [-List.length_flatMap, -List.map_take, e_ref04_Pulse_r0, e_ref04_Pulse_r1, e_ref04_Pulse_r2, e_ref04_Pulse_r3, e_ref04_Pulse_r4, e_ref04_Pulse_r5, e_ref04_Pulse_r6, e_ref04_Pulse_r7, e_ref04_Pulse_r8, e_ref04_Pulse_r9, e_ref04_Pulse_r10, e_ref04_Pulse_r11, e_ref04_Pulse_r12, e_ref04_Pulse_r13, e_ref04_Pulse_r15, e_ref04_Pulse_r16, e_ref04_Pulse_r17, e_ref04_Pulse_r18, e_ref04_Pulse_r19, C_In, w1, c1, c2, pulR, pulO, z3v]
  obtain ⟨K, rfl⟩ : ∃ K : Nat, k = K := ⟨k.toNat, by have := inn_iff.1 c1; omega⟩
  have hK := inn_iff.1 c1
  have hKp : K < ps.length := by omega
  have hfit := fun σ => @C_FitsR σ s h ps
  rw [decide_eq_true c2] at hfit
  simp only [Bool.true_and] at hfit
  have eR : pulR s K ps = match pulF s ps K ps.length 0 with
    | none => (2, none)
    | some l => if allB s.l (fitOk s ps) then (if 60 < s.l.length + l.length then (3, none) else (0, some ⟨s.w, s.lv, s.l ++ l⟩)) else (9, none) := by
    unfold pulR
    rw [c1, decide_eq_true c2]
    rfl
  rw [eR]
  have h5 := flat_len (f := Seen.enc) (w := 4) (fun _ => rfl) s.l
  have h7 : s.l.length * 32 ≤ room := by have := h.n; unfold room; omega
  simp [-List.length_flatMap, -List.map_take, e_ref04_Pulse_r0, e_ref04_Pulse_r1, e_ref04_Pulse_r2, e_ref04_Pulse_r3, e_ref04_Pulse_r4, e_ref04_Pulse_r5, e_ref04_Pulse_r6, e_ref04_Pulse_r7, e_ref04_Pulse_r8, e_ref04_Pulse_r9, e_ref04_Pulse_r10, e_ref04_Pulse_r11, e_ref04_Pulse_r12, e_ref04_Pulse_r13, e_ref04_Pulse_r15, e_ref04_Pulse_r16, e_ref04_Pulse_r17, e_ref04_Pulse_r18, e_ref04_Pulse_r19, C_In, w1, c1, c2, h5, h7]
  refine WL.to (L_pulR (σ := σ) h c2 hKp ps.length 0 1 s.l (by omega) (by have := h.n; omega)) (by simp [z3v, c2]) rfl ?_
  intro x e σ' hh
  cases hF : pulF s ps K ps.length 0 with
  | none =>
    rw [hF] at hh
    obtain ⟨rfl, ⟨b, rfl⟩, g6, g7⟩ := hh
    simp only [z3v] at g6
    simp [g6, g7, pulO, z3v]
  | some l =>
    rw [hF] at hh
    obtain ⟨v', rfl, rfl, g2, g3, g6, g8⟩ := hh
    simp only [z3v] at g6
    simp only [Surv.enc] at g3
    generalize hY : s.l ++ l = Y at *
    have hYl : Y.length = s.l.length + l.length := by rw [← hY]; simp
    cases hA : allB s.l (fitOk s ps)
    · rw [hA] at hfit
      simp [-List.length_flatMap, -List.map_take, e_ref04_Pulse_r0, e_ref04_Pulse_r1, e_ref04_Pulse_r2, e_ref04_Pulse_r3, e_ref04_Pulse_r4, e_ref04_Pulse_r5, e_ref04_Pulse_r6, e_ref04_Pulse_r7, e_ref04_Pulse_r8, e_ref04_Pulse_r9, e_ref04_Pulse_r10, e_ref04_Pulse_r11, e_ref04_Pulse_r12, e_ref04_Pulse_r13, e_ref04_Pulse_r15, e_ref04_Pulse_r16, e_ref04_Pulse_r17, e_ref04_Pulse_r18, e_ref04_Pulse_r19, g2, g3, g6, g8, hfit, pulO, z3v]
    · rw [hA] at hfit
      by_cases hl2 : 60 < s.l.length + l.length
      · have hl3 : (60 : Int) < (Y.length : Int) := by omega
        simp [-List.length_flatMap, -List.map_take, e_ref04_Pulse_r0, e_ref04_Pulse_r1, e_ref04_Pulse_r2, e_ref04_Pulse_r3, e_ref04_Pulse_r4, e_ref04_Pulse_r5, e_ref04_Pulse_r6, e_ref04_Pulse_r7, e_ref04_Pulse_r8, e_ref04_Pulse_r9, e_ref04_Pulse_r10, e_ref04_Pulse_r11, e_ref04_Pulse_r12, e_ref04_Pulse_r13, e_ref04_Pulse_r15, e_ref04_Pulse_r16, e_ref04_Pulse_r17, e_ref04_Pulse_r18, e_ref04_Pulse_r19, g2, g3, g6, g8, hfit, hl2, hl3, pulO, z3v]
      · have hl3 : ¬ (60 : Int) < (Y.length : Int) := by omega
        simp [-List.length_flatMap, -List.map_take, e_ref04_Pulse_r0, e_ref04_Pulse_r1, e_ref04_Pulse_r2, e_ref04_Pulse_r3, e_ref04_Pulse_r4, e_ref04_Pulse_r5, e_ref04_Pulse_r6, e_ref04_Pulse_r7, e_ref04_Pulse_r8, e_ref04_Pulse_r9, e_ref04_Pulse_r10, e_ref04_Pulse_r11, e_ref04_Pulse_r12, e_ref04_Pulse_r13, e_ref04_Pulse_r15, e_ref04_Pulse_r16, e_ref04_Pulse_r17, e_ref04_Pulse_r18, e_ref04_Pulse_r19, g2, g3, g6, g8, hfit, hl2, hl3, pulO, z3v]
        rw [← List.flatMap_append, hY, ← hYl]
        have h3 : ¬ σ.length ≤ σ.length - 1 := by have := List.length_pos_iff.2 hσ; omega
        have h6 := k_self (f := Seen.enc) (w := 4) (fun _ => rfl) Y
        have h5 : D.cleanL (Y.flatMap Seen.enc) = true := k_clean (fun x => by simp) _
        rw [frz_tup (by simp) (by omega)]
        simp only [frzL_cons, frzL_nil]
        rw [frz_agg (by simp) (by omega)]
        simp only [frzL_cons, frzL_nil]
        rw [frz_sl h3 (cs := Y.flatMap Seen.enc) (by simp) (by omega)]
        simp [h6, h5]

/-! ### Handed back; the same -/

theorem L_back {s : Surv} (hl : s.l.length ≤ 100000) : ∀ (m i : Nat), i + m = s.l.length →
    WL T [1, 2, 3, 4] false f_law04_back_l7 [(1, .cref s.enc), (2, .own 0 [.int .i64 0, .int .i64 0, .nils]), (3, .own 0 [.int .i64 s.w, .int .i64 s.lv, .sl σ.length 0 i 0 i 4]), (4, .int .i64 i)]
      ([.cells i ((s.l.take i).flatMap Seen.enc)] :: σ)
      (fun x e σ' => x = .exit 0 ∧ get e 2 = .own 0 [.int .i64 0, .int .i64 0, .nils] ∧ get e 3 = .own 0 [.int .i64 s.w, .int .i64 s.lv, .sl σ.length 0 s.l.length 0 s.l.length 4] ∧ σ' = [.cells s.l.length (s.l.flatMap Seen.enc)] :: σ)
  | 0, i, hi => by
    refine WL_step e_law04_back_l7 ?_
    have h1 : ¬ i < s.l.length := by omega
    have h2 : i = s.l.length := by omega
    subst h2
    simp [-List.length_flatMap, -List.map_take, e_law04_back_r0, e_law04_back_r1, e_law04_back_r2, e_law04_back_r3, e_law04_back_r4, e_law04_back_r5, e_law04_back_r6, e_law04_back_r8]
  | m + 1, i, hi => by
    refine WL_step e_law04_back_l7 ?_
    have h1 : i < s.l.length := by omega
    obtain ⟨x, hx⟩ : ∃ x, s.l[i]? = some x := ⟨_, List.getElem?_eq_getElem h1⟩
    have h2 := flat_at (f := Seen.enc) (w := 4) (fun _ => rfl) hx
    have h3 := flat_take (f := Seen.enc) (w := 4) (fun _ => rfl) (Nat.le_of_lt h1)
    have h4 := flat_snoc (f := Seen.enc) hx
    have h5 := flat_len (f := Seen.enc) (w := 4) (fun _ => rfl) (s.l.take i)
    have h6 := wnext h1 (by omega)
    have h7 : (i + 1) * 32 ≤ room := by unfold room; omega
    have h8 : min i s.l.length = i := by omega
    have ih := L_back hl m (i + 1) (by omega)
    simp [-List.length_flatMap, -List.map_take, e_law04_back_r0, e_law04_back_r1, e_law04_back_r2, e_law04_back_r3, e_law04_back_r4, e_law04_back_r5, e_law04_back_r6, e_law04_back_r8, h1, h2, h3, h5, h6, h7, h8]
    refine WL.to ih (by simp) (by simp [← h4]) fun x e σ hh => hh
theorem C_back {s : Surv} {q : D} (hq : q.blur = .lst s.l.length (s.l.flatMap Seen.enc)) (hl : s.l.length ≤ 100000) (hσ : σ ≠ []) : lim T (.call false i_law04_back [.agg [.int .i64 s.w, .int .i64 s.lv, q]] σ) = some (.val (.agg [.int .i64 s.w, .int .i64 s.lv, .lst s.l.length (s.l.flatMap Seen.enc)]) σ) := by
  refine call_of T_law04_back e_law04_back rfl ?_
  simp [-List.length_flatMap, -List.map_take, e_law04_back_r0, e_law04_back_r1, e_law04_back_r2, e_law04_back_r3, e_law04_back_r4, e_law04_back_r5, e_law04_back_r6, e_law04_back_r8, hq]
  refine WL.to (L_back (σ := σ) hl s.l.length 0 (by omega)) (by simp) (by simp) ?_
  rintro x e σ' ⟨rfl, h1, h2, rfl⟩
  simp [-List.length_flatMap, -List.map_take, h1, h2, e_law04_back_r8]
  rw [frz_agg (by simp) (by omega)]
  have h3 : ¬ σ.length ≤ σ.length - 1 := by have := List.length_pos_iff.2 hσ; omega
  have h6 := k_self (f := Seen.enc) (w := 4) (fun _ => rfl) s.l
  have h5 : D.cleanL (s.l.flatMap Seen.enc) = true := k_clean (fun x => by simp) _
  simp only [frzL_cons, frzL_nil]
  rw [frz_sl h3 (cs := s.l.flatMap Seen.enc) (by simp) (by omega)]
  simp [h6, h5]
theorem L_same {s : Surv} (hl : s.l.length ≤ 100000) : ∀ (m i : Nat), i + m = s.l.length →
    WL T [2, 3, 5] false f_law04_same_l8 [(2, .cref s.enc), (3, .cref s.enc), (5, .int .i64 i)] σ (fun x e σ' => σ' = σ ∧ x = .exit 0)
  | 0, i, hi => by
    refine WL_step e_law04_same_l8 ?_
    have h1 : ¬ i < s.l.length := by omega
    simp [-List.length_flatMap, -List.map_take, e_law04_same_r0, e_law04_same_r1, e_law04_same_r2, e_law04_same_r3, e_law04_same_r4, e_law04_same_r5, e_law04_same_r6, e_law04_same_r7, e_law04_same_r9, h1]
  | m + 1, i, hi => by
    refine WL_step e_law04_same_l8 ?_
    have h1 : i < s.l.length := by omega
    obtain ⟨x, hx⟩ : ∃ x, s.l[i]? = some x := ⟨_, List.getElem?_eq_getElem h1⟩
    have h2 := flat_at (f := Seen.enc) (w := 4) (fun _ => rfl) hx
    have h4 := wnext h1 (by omega)
    have ih := L_same hl m (i + 1) (by omega)
    simp [-List.length_flatMap, -List.map_take, e_law04_same_r0, e_law04_same_r1, e_law04_same_r2, e_law04_same_r3, e_law04_same_r4, e_law04_same_r5, e_law04_same_r6, e_law04_same_r7, e_law04_same_r9, h1, h2, h4]
    exact WL.to ih (by simp) rfl fun x e σ' hh => hh
theorem C_same {s : Surv} {q q' : D} (hq : q.blur = .lst s.l.length (s.l.flatMap Seen.enc)) (hq' : q'.blur = .lst s.l.length (s.l.flatMap Seen.enc)) (hl : s.l.length ≤ 100000) :
    lim T (.call false i_law04_same [.agg [.int .i64 s.w, .int .i64 s.lv, q], .agg [.int .i64 s.w, .int .i64 s.lv, q']] σ) = some (.val (.bool true) σ) := by
  refine call_of T_law04_same e_law04_same rfl ?_
  simp [-List.length_flatMap, -List.map_take, e_law04_same_r0, e_law04_same_r1, e_law04_same_r2, e_law04_same_r3, e_law04_same_r4, e_law04_same_r5, e_law04_same_r6, e_law04_same_r7, e_law04_same_r9, hq, hq']
  refine WL.to (L_same (σ := [] :: σ) hl s.l.length 0 (by omega)) (by simp) rfl ?_
  rintro x e σ' ⟨rfl, rfl⟩
  simp [-List.length_flatMap, -List.map_take, e_law04_same_r0, e_law04_same_r1, e_law04_same_r2, e_law04_same_r3, e_law04_same_r4, e_law04_same_r5, e_law04_same_r6, e_law04_same_r7, e_law04_same_r9]
end Go.Proofs.Ytcjjdaifpboaaaa
