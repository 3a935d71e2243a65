/-
  The law TrialGroups answers true.
-/
import Derived.Test.YtcjjdaifpboaaaaB4
import Derived.Test.YtcjjdaifpboaaaaW
import Derived.Test.YtcjjdaifpboaaaaTremTyK
set_option linter.unusedVariables false
set_option linter.unusedSimpArgs false
namespace Go.Proofs.Ytcjjdaifpboaaaa
open Go Go.Abs Go.Trial
variable {σ : Stack}

theorem way_len {s : Surv} {F : List Nat} : ∀ (k a : Nat), (wayL s F k a).length = k
  | 0, a => rfl
  | k + 1, a => by simp [wayL, way_len k]
theorem law_Groups {s : Surv} : lim T (.call false i_law04_TrialGroups [.agg [.int .i64 s.w, .int .i64 s.lv, .lst s.l.length (s.l.flatMap Seen.enc)]] [[]]) = some (.val (.bool true) [[]]) := by
  refine call_of T_law04_TrialGroups e_law04_TrialGroups rfl ?_
  by_cases hl : s.l.length ≤ 70
  rotate_left
  · have h1 : (70 : Int) < s.l.length := by omega
    simp [-List.length_flatMap, -List.map_take, e_law04_TrialGroups_r0, e_law04_TrialGroups_r1, e_law04_TrialGroups_r2, e_law04_TrialGroups_r3, e_law04_TrialGroups_r4, e_law04_TrialGroups_r5, e_law04_TrialGroups_r6, e_law04_TrialGroups_r7, e_law04_TrialGroups_r8, e_law04_TrialGroups_r9, e_law04_TrialGroups_r10, e_law04_TrialGroups_r11, e_law04_TrialGroups_r12, e_law04_TrialGroups_r13, e_law04_TrialGroups_r14, e_law04_TrialGroups_r15, h1, C_wakes]
  have h1 : ¬ (70 : Int) < s.l.length := by omega
  have hF := fun σ => @C_FaultS σ s (by omega)
  have hk := fun σ => @C_checkS σ s (by omega)
  have hS := fun σ (hσ : σ ≠ []) => @C_Survey σ s (by omega) hσ
  have hG := fun σ (hσ : σ ≠ []) => @C_Groups σ s (by omega) hσ
  have hC := fun σ (hσ : σ ≠ []) => @C_Clash σ s (by omega) hσ
  by_cases h0 : sFault s = 0
  rotate_left
  · simp [-List.length_flatMap, -List.map_take, e_law04_TrialGroups_r0, e_law04_TrialGroups_r1, e_law04_TrialGroups_r2, e_law04_TrialGroups_r3, e_law04_TrialGroups_r4, e_law04_TrialGroups_r5, e_law04_TrialGroups_r6, e_law04_TrialGroups_r7, e_law04_TrialGroups_r8, e_law04_TrialGroups_r9, e_law04_TrialGroups_r10, e_law04_TrialGroups_r11, e_law04_TrialGroups_r12, e_law04_TrialGroups_r13, e_law04_TrialGroups_r14, e_law04_TrialGroups_r15, h1, hF, hS, hk, hG, hC, grD, cwD, h0, C_wakes]
  have h := sFault_sv h0
  have hw := h.w
  have hGR := fun σ (hσ : σ ≠ []) => @C_GroupsR σ s h hσ
  have hCR := fun σ => @C_ClashR σ s h
  have hI := fun σ => @C_ints σ (grp s) (by simp [grp]; omega)
  have hgd : grD s = .tup [.lst (grp s).length ((grp s).flatMap intE), .int .i64 0] := by unfold grD; rw [if_pos h0]
  rw [hgd] at hG
  clear hgd
  by_cases hc : 0 ≤ clash s
  rotate_left
  · have hc' : clash s < 0 := by omega
    generalize grp s = g at *
    simp [-List.length_flatMap, -List.map_take, e_law04_TrialGroups_r0, e_law04_TrialGroups_r1, e_law04_TrialGroups_r2, e_law04_TrialGroups_r3, e_law04_TrialGroups_r4, e_law04_TrialGroups_r5, e_law04_TrialGroups_r6, e_law04_TrialGroups_r7, e_law04_TrialGroups_r8, e_law04_TrialGroups_r9, e_law04_TrialGroups_r10, e_law04_TrialGroups_r11, e_law04_TrialGroups_r12, e_law04_TrialGroups_r13, e_law04_TrialGroups_r14, e_law04_TrialGroups_r15, h1, hF, hS, hk, hG, hC, hGR, hCR, hI, cwD, h0, hc, hc', C_wakes]
  obtain ⟨k, hkk⟩ : ∃ k : Nat, clash s = k := ⟨(clash s).toNat, by omega⟩
  obtain ⟨x, hx, x1, x2, x3, x4, x5, x6⟩ := clash_at h hkk
  have e1 : (s.l[(clash s).toNat]?.map fun x => x.f.toNat).getD 0 = x.f.toNat := by rw [hkk, Int.toNat_natCast, hx]; rfl
  have e2 : (s.l[(clash s).toNat]?.map fun x => x.t.toNat).getD 0 = x.t.toNat := by rw [hkk, Int.toNat_natCast, hx]; rfl
  have hWR := fun σ (hσ : σ ≠ []) => @C_WayR σ s h _ _ x1 x2 x6 hσ
  have hlen : (wayS s x.f.toNat x.t.toNat).length ≤ 100 := by
    have := far_lt h x2 x6
    simp only [wayS, List.length_cons, way_len]; omega
  have hIW := fun σ => @C_ints σ (iN (wayS s x.f.toNat x.t.toNat)) (by rw [iN_length]; exact hlen)
  simp only [iN_length] at hIW
  have hcd : cwD s = .tup [.int .i64 k, .lst (wayS s x.f.toNat x.t.toNat).length ((iN (wayS s x.f.toNat x.t.toNat)).flatMap intE), .int .i64 0] := by
    unfold cwD
    rw [e1, e2, if_pos h0, if_pos hc, hkk]
  rw [hcd] at hC
  rw [hkk] at hCR
  have hkl := (List.getElem?_eq_some_iff.1 hx).1
  have a1 := flat_at (f := Seen.enc) (w := 4) (fun _ => rfl) hx
  simp only [Seen.enc] at a1
  rw [x3, x4] at a1
  have hk0 : ¬ (k : Int) < 0 := by omega
  clear e1 e2 hcd
  generalize wayS s x.f.toNat x.t.toNat = wy at *
  generalize grp s = g at *
  generalize x.f.toNat = A at *
  generalize x.t.toNat = B at *
  simp [-List.length_flatMap, -List.map_take, e_law04_TrialGroups_r0, e_law04_TrialGroups_r1, e_law04_TrialGroups_r2, e_law04_TrialGroups_r3, e_law04_TrialGroups_r4, e_law04_TrialGroups_r5, e_law04_TrialGroups_r6, e_law04_TrialGroups_r7, e_law04_TrialGroups_r8, e_law04_TrialGroups_r9, e_law04_TrialGroups_r10, e_law04_TrialGroups_r11, e_law04_TrialGroups_r12, e_law04_TrialGroups_r13, e_law04_TrialGroups_r14, e_law04_TrialGroups_r15, h1, hF, hS, hk, hG, hC, hGR, hCR, hI, h0, hk0, hkl, a1, hWR, hIW, C_wakes]
abbrev tySeen : Ty := .struct [.int .i64, .int .i64, .struct [.int .i64, .int .i64]]
theorem seen_of {ds : List D} (h : tySeen.has ds) : ∃ x : Seen, ds = x.enc ∧ True := by
  obtain ⟨_, _, rfl, ⟨f, rfl, _⟩, _, _, rfl, ⟨t, rfl, _⟩, _, _, rfl, ⟨_, _, rfl, ⟨a, rfl, _⟩, _, _, rfl, ⟨b, rfl, _⟩, rfl⟩, rfl⟩ := h
  exact ⟨⟨f, t, ⟨a, b⟩⟩, rfl, trivial⟩
theorem surv_of {d : D} (h : (Ty.struct [.int .i64, .int .i64, .slice 4 tySeen]).hasV d) : ∃ s : Surv, d = .agg s.enc := by
  obtain ⟨ds, rfl, h⟩ := h
  obtain ⟨_, _, rfl, ⟨w, rfl, _⟩, _, _, rfl, ⟨lv, rfl, _⟩, _, _, rfl, hs, rfl⟩ := h
  obtain ⟨d, rfl⟩ := slice_one hs
  obtain ⟨l, rfl, hl, _⟩ := rows_of (fun ds h => seen_of h) hs
  exact ⟨⟨w, lv, l⟩, rfl⟩
theorem go_TrialGroups (x0 : D) (t0 : (Ty.struct [.int .i64, .int .i64, .slice 4 tySeen]).hasV x0) :
    ∃ σ', lim T (.call false i_law04_TrialGroups [x0] [[]]) = some (.val (.bool true) σ') := by
  obtain ⟨s, rfl⟩ := surv_of t0
  exact ⟨_, law_Groups⟩
end Go.Proofs.Ytcjjdaifpboaaaa
