/-
  The survey behind a pulse, whole, of the program.
-/
import Derived.Test.YtcjjdaifpboaaaaS13
set_option linter.unusedVariables false
set_option linter.unusedSimpArgs false
namespace Go.Proofs.Ytcjjdaifpboaaaa
open Go Go.Abs Go.Trial
variable {σ : Stack}

theorem C_cloneK {l : List Seen} (h : l ≠ []) (hl : l.length ≤ 1000) : lim T (.call true i_slices_Clone_trial_Seen [.lst l.length (l.flatMap Seen.enc)] ([] :: σ)) = some (.val (.sl σ.length 0 1 0 l.length 4) ([.cells 1 (l.flatMap Seen.enc)] :: σ)) := by
  refine call_kp T_slices_Clone_trial_Seen e_slices_Clone_trial_Seen rfl ?_
  obtain ⟨n, hn⟩ : ∃ n, l.length = n + 1 := by
    cases l with
    | nil => exact absurd rfl h
    | cons x l => exact ⟨l.length, rfl⟩
  have h5 := flat_len (f := Seen.enc) (w := 4) (fun _ => rfl) l
  have h7 : l.length * 32 ≤ room := by unfold room; omega
  rw [hn] at h5 h7 ⊢
  simp [-List.length_flatMap, -List.map_take, e_slices_Clone_trial_Seen_r0, e_slices_Clone_trial_Seen_r1, e_slices_Clone_trial_Seen_r2, e_slices_Clone_trial_Seen_r3, h5, h7]
theorem C_cloneN : lim T (.call true i_slices_Clone_trial_Seen [.nils] ([] :: σ)) = some (.val .nils ([] :: σ)) := by
  refine call_kp T_slices_Clone_trial_Seen e_slices_Clone_trial_Seen rfl ?_
  simp [-List.length_flatMap, -List.map_take, e_slices_Clone_trial_Seen_r0, e_slices_Clone_trial_Seen_r1, e_slices_Clone_trial_Seen_r2, e_slices_Clone_trial_Seen_r3]
def pulR (s : Surv) (k : Int) (ps : List Int) : Int × Option Surv :=
  if inn k 0 (s.w - 1) && decide ((ps.length : Int) = s.w) then
    match pulF s ps k.toNat ps.length 0 with
    | none => (2, none)
    | some l => if allB s.l (fitOk s ps) then (if 60 < s.l.length + l.length then (3, none) else (0, some ⟨s.w, s.lv, s.l ++ l⟩)) else (9, none)
  else (2, none)
def pulO (r : Int × Option Surv) : D := .tup [match r.2 with | none => .agg z3v | some y => .agg y.enc, .int .i64 r.1]
theorem sqD_flat (s : Surv) : (sqD s).calm = sqD s ∧ (sqD s).strip = sqD s := by
  unfold sqD
  split <;> exact ⟨rfl, rfl⟩
theorem C_Pulse {s : Surv} (hl : s.l.length ≤ 1000) (hσ : σ ≠ []) {k : Int} {ps : List Int} (hpl : ps.length ≤ 1000) : lim T (.call false i_trial_Pulse [.agg [.int .i64 s.w, .int .i64 s.lv, sqD s], .int .i64 k, .lst ps.length (ps.flatMap intE)] σ) =
    some (.val (if sFault s = 0 then pulO (pulR s k ps) else .tup [.agg z3v, .int .i64 (sFault s)]) σ) := by
  refine call_of T_trial_Pulse e_trial_Pulse rfl ?_
  have hf := fun σ => @C_checkS σ s (sqD s) (sqD_blur s) (by omega)
  obtain ⟨hq1, hq2⟩ := sqD_flat s
  by_cases h0 : sFault s = 0
  rotate_left
  · simp [-List.length_flatMap, -List.map_take, e_trial_Pulse_r0, e_trial_Pulse_r1, e_trial_Pulse_r2, e_trial_Pulse_r3, e_trial_Pulse_r4, e_trial_Pulse_r5, e_trial_Pulse_r6, e_trial_Pulse_r7, e_trial_Pulse_r8, e_trial_Pulse_r9, e_trial_Pulse_r10, e_trial_Pulse_r11, e_trial_Pulse_r12, e_trial_Pulse_r13, e_trial_Pulse_r14, e_trial_Pulse_r15, e_trial_Pulse_r16, e_trial_Pulse_r17, e_trial_Pulse_r19, e_trial_Pulse_r20, e_trial_Pulse_r21, e_trial_Pulse_r22, e_trial_Pulse_r23, hf, h0, hq1, hq2, z3v]
  have h := sFault_sv h0
  have hw := h.w
  have w1 := w64 (n := s.w - 1) (by omega)
  rw [if_pos h0]
  by_cases c1 : inn k 0 (s.w - 1) = true
  rotate_left
  · rw [Bool.not_eq_true] at c1
    simp [-List.length_flatMap, -List.map_take, e_trial_Pulse_r0, e_trial_Pulse_r1, e_trial_Pulse_r2, e_trial_Pulse_r3, e_trial_Pulse_r4, e_trial_Pulse_r5, e_trial_Pulse_r6, e_trial_Pulse_r7, e_trial_Pulse_r8, e_trial_Pulse_r9, e_trial_Pulse_r10, e_trial_Pulse_r11, e_trial_Pulse_r12, e_trial_Pulse_r13, e_trial_Pulse_r14, e_trial_Pulse_r15, e_trial_Pulse_r16, e_trial_Pulse_r17, e_trial_Pulse_r19, e_trial_Pulse_r20, e_trial_Pulse_r21, e_trial_Pulse_r22, e_trial_Pulse_r23, hf, h0, hq1, hq2, C_within, w1, c1, pulR, pulO, z3v]
  by_cases c2 : (ps.length : Int) = s.w
  rotate_left
  · simp [-List.length_flatMap, -List.map_take, e_trial_Pulse_r0, e_trial_Pulse_r1, e_trial_Pulse_r2, e_trial_Pulse_r3, e_trial_Pulse_r4, e_trial_Pulse_r5, e_trial_Pulse_r6, e_trial_Pulse_r7, e_trial_Pulse_r8, e_trial_Pulse_r9, e_trial_Pulse_r10, e_trial_Pulse_r11, e_trial_Pulse_r12, e_trial_Pulse_r13, e_trial_Pulse_r14, e_trial_Pulse_r15, e_trial_Pulse_r16, e_trial_Pulse_r17, e_trial_Pulse_r19, e_trial_Pulse_r20, e_trial_Pulse_r21, e_trial_Pulse_r22, e_trial_Pulse_r23, hf, h0, hq1, hq2, C_within, w1, c1, c2, pulR, pulO, z3v]
  obtain ⟨K, rfl⟩ : ∃ K : Nat, k = K := ⟨k.toNat, by have := inn_iff.1 c1; omega⟩
  have hK := inn_iff.1 c1
  have hKp : K < ps.length := by omega
  have hfit := fun σ => @C_fits σ s (sqD s) (sqD_blur s) h ps c2
  have eR : pulR s K ps = match pulF s ps K ps.length 0 with
    | none => (2, none)
    | some l => if allB s.l (fitOk s ps) then (if 60 < s.l.length + l.length then (3, none) else (0, some ⟨s.w, s.lv, s.l ++ l⟩)) else (9, none) := by
    unfold pulR
    rw [c1, decide_eq_true c2]
    rfl
  rw [eR]
  have fin : ∀ (x : Abs.Exit) (e : Env) (σ' : Stack), (match pulF s ps K ps.length 0 with
        | none => x = .ret ∧ (∃ b, σ' = b :: σ) ∧ get e 6 = .own 0 z3v ∧ get e 7 = .int .i64 2
        | some l => ∃ v', x = .exit 0 ∧ σ' = [.cells v' ((s.l ++ l).flatMap Seen.enc)] :: σ ∧ get e 2 = .lst ps.length (ps.flatMap intE) ∧ get e 3 = .cref [.int .i64 s.w, .int .i64 s.lv, sqD s] ∧ get e 6 = .own 0 z3v ∧ get e 9 = .own 0 [.int .i64 s.w, .int .i64 s.lv, .sl σ.length 0 v' 0 (s.l ++ l).length 4]) →
      outC 0 (thenC (lim T) ((Cmd.blk 2 ((Cmd.reg [6, 9, 78] f_trial_Pulse_r19).seq (Cmd.ite (Opd.t 78) ((Cmd.reg [6, 7] f_trial_Pulse_r20).seq Cmd.ret) ((Cmd.reg [6, 9, 84] f_trial_Pulse_r21).seq (Cmd.ite (Opd.t 84) ((Cmd.reg [6, 7] f_trial_Pulse_r22).seq Cmd.ret) Cmd.nop))))).seq ((Cmd.reg [6, 7] f_trial_Pulse_r23).seq Cmd.ret))
        (endC σ [Res.v 6 true 3, Res.t 7] (pulO (match pulF s ps K ps.length 0 with
    | none => (2, none)
    | some l => if allB s.l (fitOk s ps) then (if 60 < s.l.length + l.length then (3, none) else (0, some ⟨s.w, s.lv, s.l ++ l⟩)) else (9, none))))) .mk x e σ' := by
    intro x e σ' hh
    cases hF : pulF s ps K ps.length 0 with
    | none =>
      rw [hF] at hh
      obtain ⟨rfl, ⟨b, rfl⟩, g6, g7⟩ := hh
      simp only [z3v] at g6
      simp [g6, g7, pulO, z3v]
    | some l =>
      rw [hF] at hh
      obtain ⟨v', rfl, rfl, g2, g3, g6, g9⟩ := hh
      simp only [z3v] at g6
      generalize hY : s.l ++ l = Y at *
      have hYl : Y.length = s.l.length + l.length := by rw [← hY]; simp
      cases hA : allB s.l (fitOk s ps)
      · rw [hA] at hfit
        simp [-List.length_flatMap, -List.map_take, e_trial_Pulse_r0, e_trial_Pulse_r1, e_trial_Pulse_r2, e_trial_Pulse_r3, e_trial_Pulse_r4, e_trial_Pulse_r5, e_trial_Pulse_r6, e_trial_Pulse_r7, e_trial_Pulse_r8, e_trial_Pulse_r9, e_trial_Pulse_r10, e_trial_Pulse_r11, e_trial_Pulse_r12, e_trial_Pulse_r13, e_trial_Pulse_r14, e_trial_Pulse_r15, e_trial_Pulse_r16, e_trial_Pulse_r17, e_trial_Pulse_r19, e_trial_Pulse_r20, e_trial_Pulse_r21, e_trial_Pulse_r22, e_trial_Pulse_r23, g2, g3, g6, g9, hq1, hq2, hfit, pulO, z3v]
      · rw [hA] at hfit
        by_cases hl2 : 60 < s.l.length + l.length
        · have hl3 : (60 : Int) < (Y.length : Int) := by omega
          simp [-List.length_flatMap, -List.map_take, e_trial_Pulse_r0, e_trial_Pulse_r1, e_trial_Pulse_r2, e_trial_Pulse_r3, e_trial_Pulse_r4, e_trial_Pulse_r5, e_trial_Pulse_r6, e_trial_Pulse_r7, e_trial_Pulse_r8, e_trial_Pulse_r9, e_trial_Pulse_r10, e_trial_Pulse_r11, e_trial_Pulse_r12, e_trial_Pulse_r13, e_trial_Pulse_r14, e_trial_Pulse_r15, e_trial_Pulse_r16, e_trial_Pulse_r17, e_trial_Pulse_r19, e_trial_Pulse_r20, e_trial_Pulse_r21, e_trial_Pulse_r22, e_trial_Pulse_r23, g2, g3, g6, g9, hq1, hq2, hfit, hl2, hl3, pulO, z3v]
        · have hl3 : ¬ (60 : Int) < (Y.length : Int) := by omega
          simp [-List.length_flatMap, -List.map_take, e_trial_Pulse_r0, e_trial_Pulse_r1, e_trial_Pulse_r2, e_trial_Pulse_r3, e_trial_Pulse_r4, e_trial_Pulse_r5, e_trial_Pulse_r6, e_trial_Pulse_r7, e_trial_Pulse_r8, e_trial_Pulse_r9, e_trial_Pulse_r10, e_trial_Pulse_r11, e_trial_Pulse_r12, e_trial_Pulse_r13, e_trial_Pulse_r14, e_trial_Pulse_r15, e_trial_Pulse_r16, e_trial_Pulse_r17, e_trial_Pulse_r19, e_trial_Pulse_r20, e_trial_Pulse_r21, e_trial_Pulse_r22, e_trial_Pulse_r23, g2, g3, g6, g9, hq1, hq2, hfit, hl2, hl3, pulO, z3v]
          rw [← List.flatMap_append, hY, ← hYl]
          have h3 : ¬ σ.length ≤ σ.length - 1 := by have := List.length_pos_iff.2 hσ; omega
          have h6 := k_self (f := Seen.enc) (w := 4) (fun _ => rfl) Y
          have h5 : D.cleanL (Y.flatMap Seen.enc) = true := k_clean (fun x => by simp) _
          rw [frz_tup (by simp) (by omega)]
          simp only [frzL_cons, frzL_nil]
          rw [frz_agg (by simp) (by omega)]
          simp only [frzL_cons, frzL_nil]
          rw [frz_sl h3 (cs := Y.flatMap Seen.enc) (by simp) (by omega)]
          simp [h6, h5]
  by_cases hz : s.l = []
  · have eq0 : sqD s = .nils := by unfold sqD; rw [if_pos hz]
    have hc : lim T (.call true i_slices_Clone_trial_Seen [sqD s] ([] :: σ)) = some (.val .nils ([] :: σ)) := by rw [eq0]; exact C_cloneN
    simp [-List.length_flatMap, -List.map_take, e_trial_Pulse_r0, e_trial_Pulse_r1, e_trial_Pulse_r2, e_trial_Pulse_r3, e_trial_Pulse_r4, e_trial_Pulse_r5, e_trial_Pulse_r6, e_trial_Pulse_r7, e_trial_Pulse_r8, e_trial_Pulse_r9, e_trial_Pulse_r10, e_trial_Pulse_r11, e_trial_Pulse_r12, e_trial_Pulse_r13, e_trial_Pulse_r14, e_trial_Pulse_r15, e_trial_Pulse_r16, e_trial_Pulse_r17, e_trial_Pulse_r19, e_trial_Pulse_r20, e_trial_Pulse_r21, e_trial_Pulse_r22, e_trial_Pulse_r23, hf, h0, hq1, hq2, C_within, w1, c1, c2, hc]
    refine WL.to (L_pul (σ := σ) h c2 (sqD_flat s) hKp ps.length 0 0 s.l (by omega) (by have := h.n; omega)) (by simp [z3v, c2, hz]) (by simp [hz]) ?_
    exact fin
  · have eq0 : sqD s = .lst s.l.length (s.l.flatMap Seen.enc) := by unfold sqD; rw [if_neg hz]
    have hc : lim T (.call true i_slices_Clone_trial_Seen [sqD s] ([] :: σ)) = some (.val (.sl σ.length 0 1 0 s.l.length 4) ([.cells 1 (s.l.flatMap Seen.enc)] :: σ)) := by rw [eq0]; exact C_cloneK hz (by have := h.n; omega)
    simp [-List.length_flatMap, -List.map_take, e_trial_Pulse_r0, e_trial_Pulse_r1, e_trial_Pulse_r2, e_trial_Pulse_r3, e_trial_Pulse_r4, e_trial_Pulse_r5, e_trial_Pulse_r6, e_trial_Pulse_r7, e_trial_Pulse_r8, e_trial_Pulse_r9, e_trial_Pulse_r10, e_trial_Pulse_r11, e_trial_Pulse_r12, e_trial_Pulse_r13, e_trial_Pulse_r14, e_trial_Pulse_r15, e_trial_Pulse_r16, e_trial_Pulse_r17, e_trial_Pulse_r19, e_trial_Pulse_r20, e_trial_Pulse_r21, e_trial_Pulse_r22, e_trial_Pulse_r23, hf, h0, hq1, hq2, C_within, w1, c1, c2, hc]
    refine WL.to (L_pul (σ := σ) h c2 (sqD_flat s) hKp ps.length 0 1 s.l (by omega) (by have := h.n; omega)) (by simp [z3v, c2]) rfl ?_
    exact fin
end Go.Proofs.Ytcjjdaifpboaaaa
