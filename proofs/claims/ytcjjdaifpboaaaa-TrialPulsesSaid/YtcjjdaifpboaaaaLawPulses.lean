/-
  The law TrialPulses answers true.
-/
import Derived.Test.YtcjjdaifpboaaaaS15
import Derived.Test.YtcjjdaifpboaaaaW3
import Derived.Test.YtcjjdaifpboaaaaTremTyK
set_option linter.unusedVariables false
set_option linter.unusedSimpArgs false
namespace Go.Proofs.Ytcjjdaifpboaaaa
open Go Go.Abs Go.Trial
variable {σ : Stack}

theorem zp1 {l : List Int} : frz 0 16 (.sl 1 0 1 0 l.length 1) [[.cells 1 (l.flatMap intE)], []] = (.lst l.length (l.flatMap intE), [[.dead], []]) := k_frz (f := intE) (w := 1) (fun _ => rfl) (fun x => by simp) (σ := [[]]) (by simp) rfl
theorem zp2 {l : List Int} : frz 0 16 (.sl 1 1 1 0 l.length 1) [[.dead, .cells 1 (l.flatMap intE)], []] = (.lst l.length (l.flatMap intE), [[.dead, .dead], []]) := k_frz (f := intE) (w := 1) (fun _ => rfl) (fun x => by simp) (bs := [.dead, .cells 1 (l.flatMap intE)]) (σ := [[]]) (by simp) rfl
theorem pulR_len {s : Surv} {k : Int} {ps : List Int} {e : Int} {y : Surv} (h : pulR s k ps = (e, some y)) : y.l.length ≤ 60 := by
  unfold pulR at h
  repeat' split at h
  all_goals (simp only [Prod.mk.injEq, reduceCtorEq, and_false, Option.some.injEq] at h)
  rename_i h1
  obtain ⟨_, rfl⟩ := h
  simp only [List.length_append]
  omega
theorem law_Pulses {s : Surv} {k : Int} {ps : List Int} : lim T (.call false i_law04_TrialPulses [.agg [.int .i64 s.w, .int .i64 s.lv, .lst s.l.length (s.l.flatMap Seen.enc)], .int .i64 k, .lst ps.length (ps.flatMap intE)] [[]]) = some (.val (.bool true) [[]]) := by
  refine call_of T_law04_TrialPulses e_law04_TrialPulses rfl ?_
  by_cases hl : s.l.length ≤ 70
  rotate_left
  · have h1 : (70 : Int) < s.l.length := by omega
    simp [-List.length_flatMap, -List.map_take, e_law04_TrialPulses_r0, e_law04_TrialPulses_r1, e_law04_TrialPulses_r2, e_law04_TrialPulses_r3, e_law04_TrialPulses_r4, e_law04_TrialPulses_r5, e_law04_TrialPulses_r6, e_law04_TrialPulses_r7, e_law04_TrialPulses_r8, e_law04_TrialPulses_r9, e_law04_TrialPulses_r10, h1, C_wakes]
  have h1 : ¬ (70 : Int) < s.l.length := by omega
  by_cases hp : ps.length ≤ 20
  rotate_left
  · have h2 : (20 : Int) < ps.length := by omega
    simp [-List.length_flatMap, -List.map_take, e_law04_TrialPulses_r0, e_law04_TrialPulses_r1, e_law04_TrialPulses_r2, e_law04_TrialPulses_r3, e_law04_TrialPulses_r4, e_law04_TrialPulses_r5, e_law04_TrialPulses_r6, e_law04_TrialPulses_r7, e_law04_TrialPulses_r8, e_law04_TrialPulses_r9, e_law04_TrialPulses_r10, h1, h2, C_wakes]
  have h2 : ¬ (20 : Int) < ps.length := by omega
  have hF := fun σ => @C_FaultS σ s (by omega)
  have hS := fun σ (hσ : σ ≠ []) => @C_Survey σ s (by omega) hσ
  have hT := fun σ => @C_Fits σ s (sqD s) (sqD_blur s) (by omega) ps
  have hP := fun σ (hσ : σ ≠ []) => @C_Pulse σ s (by omega) hσ k ps (by omega)
  have h5 : (ps.flatMap intE).length = ps.length := by simpa using flat_len (f := intE) (w := 1) (fun _ => rfl) ps
  have h7 : ps.length * 8 ≤ room := by unfold room; omega
  have hz0 := fun σ (hσ : σ ≠ []) => @C_back σ ⟨0, 0, []⟩ .nils rfl (by simp) hσ
  have hz1 := fun σ => @C_same σ ⟨0, 0, []⟩ (.lst 0 []) .nils rfl rfl (by simp)
  simp only [List.length_nil, List.flatMap_nil] at hz0 hz1
  by_cases h0 : sFault s = 0
  rotate_left
  · simp [-List.length_flatMap, -List.map_take, e_law04_TrialPulses_r0, e_law04_TrialPulses_r1, e_law04_TrialPulses_r2, e_law04_TrialPulses_r3, e_law04_TrialPulses_r4, e_law04_TrialPulses_r5, e_law04_TrialPulses_r6, e_law04_TrialPulses_r7, e_law04_TrialPulses_r8, e_law04_TrialPulses_r9, e_law04_TrialPulses_r10, h1, h2, hF, hS, hT, hP, h0, h5, h7, zp1, zp2, z3v, hz0, hz1, C_wakesDD]
  have h := sFault_sv h0
  have hTR := fun σ => @C_FitsR σ s h ps
  have hPR := fun σ (hσ : σ ≠ []) => @C_PulseR σ s h hσ k ps (by omega)
  generalize hB : (decide ((ps.length : Int) = s.w) && allB s.l (fitOk s ps)) = B at *
  cases hr : pulR s k ps with
  | mk e y =>
    rw [hr] at hP hPR
    cases y with
    | none =>
      simp only [pulO, z3v] at hP hPR
      simp [-List.length_flatMap, -List.map_take, e_law04_TrialPulses_r0, e_law04_TrialPulses_r1, e_law04_TrialPulses_r2, e_law04_TrialPulses_r3, e_law04_TrialPulses_r4, e_law04_TrialPulses_r5, e_law04_TrialPulses_r6, e_law04_TrialPulses_r7, e_law04_TrialPulses_r8, e_law04_TrialPulses_r9, e_law04_TrialPulses_r10, h1, h2, hF, hS, hT, hP, h0, h5, h7, zp1, zp2, hz0, hz1, hTR, hPR, C_wakesDD]
    | some y =>
      simp only [pulO, Surv.enc] at hP hPR
      have hyl : y.l.length ≤ 100000 := by have := pulR_len hr; omega
      have hb0 := fun σ (hσ : σ ≠ []) => @C_back σ y (.lst y.l.length (y.l.flatMap Seen.enc)) rfl hyl hσ
      have hb1 := fun σ => @C_same σ y (.lst y.l.length (y.l.flatMap Seen.enc)) (.lst y.l.length (y.l.flatMap Seen.enc)) rfl rfl hyl
      simp [-List.length_flatMap, -List.map_take, e_law04_TrialPulses_r0, e_law04_TrialPulses_r1, e_law04_TrialPulses_r2, e_law04_TrialPulses_r3, e_law04_TrialPulses_r4, e_law04_TrialPulses_r5, e_law04_TrialPulses_r6, e_law04_TrialPulses_r7, e_law04_TrialPulses_r8, e_law04_TrialPulses_r9, e_law04_TrialPulses_r10, h1, h2, hF, hS, hT, hP, h0, h5, h7, zp1, zp2, hb0, hb1, hTR, hPR, C_wakesDD]
abbrev tySeenP : Ty := .struct [.int .i64, .int .i64, .struct [.int .i64, .int .i64]]
theorem seenP_of {ds : List D} (h : tySeenP.has ds) : ∃ x : Seen, ds = x.enc ∧ True := by
  obtain ⟨_, _, rfl, ⟨f, rfl, _⟩, _, _, rfl, ⟨t, rfl, _⟩, _, _, rfl, ⟨_, _, rfl, ⟨a, rfl, _⟩, _, _, rfl, ⟨b, rfl, _⟩, rfl⟩, rfl⟩ := h
  exact ⟨⟨f, t, ⟨a, b⟩⟩, rfl, trivial⟩
theorem survP_of {d : D} (h : (Ty.struct [.int .i64, .int .i64, .slice 4 tySeenP]).hasV d) : ∃ s : Surv, d = .agg s.enc := by
  obtain ⟨ds, rfl, h⟩ := h
  obtain ⟨_, _, rfl, ⟨w, rfl, _⟩, _, _, rfl, ⟨lv, rfl, _⟩, _, _, rfl, hs, rfl⟩ := h
  obtain ⟨d, rfl⟩ := slice_one hs
  obtain ⟨l, rfl, hl, _⟩ := rows_of (fun ds h => seenP_of h) hs
  exact ⟨⟨w, lv, l⟩, rfl⟩
theorem go_TrialPulses (x0 x1 x2 : D) (t0 : (Ty.struct [.int .i64, .int .i64, .slice 4 tySeenP]).hasV x0) (t1 : (Ty.int .i64).hasV x1) (t2 : (Ty.slice 1 (.int .i64)).hasV x2) :
    ∃ σ', lim T (.call false i_law04_TrialPulses [x0, x1, x2] [[]]) = some (.val (.bool true) σ') := by
  obtain ⟨s, rfl⟩ := survP_of t0
  obtain ⟨k, rfl, _⟩ := i64_of t1
  obtain ⟨ps, rfl, _⟩ := rows_of (f := intE) (Q := fun _ => True) (fun ds h => by
    simp only [Ty.has] at h
    obtain ⟨n, rfl, _⟩ := h
    exact ⟨n, rfl, trivial⟩) t2
  exact ⟨_, law_Pulses⟩
end Go.Proofs.Ytcjjdaifpboaaaa
