/-
  Groups and clashes, of the program.
-/
import Derived.Test.YtcjjdaifpboaaaaB3
set_option linter.unusedVariables false
set_option linter.unusedSimpArgs false
namespace Go.Proofs.Ytcjjdaifpboaaaa
open Go Go.Abs Go.Trial
variable {σ : Stack}

theorem in_at {a : List Int} {i : Nat} {x : Int} (h : a[i]? = some x) : (a.flatMap intE).drop i = .int .i64 x :: (a.flatMap intE).drop (i + 1) := by
  have := k_drop (f := intE) (w := 1) (fun _ => rfl) h
  simpa using this
theorem L_ints {a : List Int} (hla : a.length ≤ 100) : ∀ (m i : Nat), i + m = a.length →
    WL T [0, 1, 5] false f_law04_ints_l8 [(0, .lst a.length (a.flatMap intE)), (1, .lst a.length (a.flatMap intE)), (5, .int .i64 i)] σ
      (fun x e σ' => σ' = σ ∧ x = .exit 0)
  | 0, i, hi => by
    refine WL_step e_law04_ints_l8 ?_
    have h1 : ¬ i < a.length := by omega
    simp [-List.length_flatMap, -List.map_take, e_law04_ints_r0, e_law04_ints_r1, e_law04_ints_r2, e_law04_ints_r3, e_law04_ints_r4, e_law04_ints_r5, e_law04_ints_r6, e_law04_ints_r7, e_law04_ints_r9, h1]
  | m + 1, i, hi => by
    refine WL_step e_law04_ints_l8 ?_
    have h1 : i < a.length := by omega
    obtain ⟨x, hx⟩ : ∃ x, a[i]? = some x := ⟨_, List.getElem?_eq_getElem h1⟩
    have h2 := in_at hx
    have h4 := wnext h1 (by omega)
    have ih := L_ints hla m (i + 1) (by omega)
    simp [-List.length_flatMap, -List.map_take, e_law04_ints_r0, e_law04_ints_r1, e_law04_ints_r2, e_law04_ints_r3, e_law04_ints_r4, e_law04_ints_r5, e_law04_ints_r6, e_law04_ints_r7, e_law04_ints_r9, h1, h2, h4]
    exact WL.to ih (by simp) rfl fun x e σ' hh => hh
theorem C_ints {a : List Int} (hla : a.length ≤ 100) : lim T (.call false i_law04_ints [.lst a.length (a.flatMap intE), .lst a.length (a.flatMap intE)] σ) = some (.val (.bool true) σ) := by
  refine call_of T_law04_ints e_law04_ints rfl ?_
  simp [-List.length_flatMap, -List.map_take, e_law04_ints_r0, e_law04_ints_r1, e_law04_ints_r2, e_law04_ints_r3, e_law04_ints_r4, e_law04_ints_r5, e_law04_ints_r6, e_law04_ints_r7, e_law04_ints_r9]
  refine WL.to (L_ints (σ := [] :: σ) hla a.length 0 (by omega)) (by simp) rfl ?_
  rintro x e σ' ⟨rfl, rfl⟩
  simp [-List.length_flatMap, -List.map_take, e_law04_ints_r0, e_law04_ints_r1, e_law04_ints_r2, e_law04_ints_r3, e_law04_ints_r4, e_law04_ints_r5, e_law04_ints_r6, e_law04_ints_r7, e_law04_ints_r9]
theorem clash_at {s : Surv} (h : Sv s) {k : Nat} (hk : clash s = k) : ∃ x : Seen, s.l[k]? = some x ∧ x.f.toNat < s.w.toNat ∧ x.t.toNat < s.w.toNat ∧ x.f = x.f.toNat ∧ x.t = x.t.toNat ∧ x.f.toNat ≠ x.t.toNat ∧ Gr s x.f.toNat = Gr s x.t.toNat := by
  have key : ∀ (l : List Seen) (k : Nat), idxOf (clashT s) l = k → ∃ x, l[k]? = some x ∧ clashT s x = true := by
    intro l
    induction l with
    | nil => intro k hk; simp [idxOf] at hk
    | cons x l ih =>
      intro k hk
      simp only [idxOf] at hk
      split at hk
      · rename_i hx
        obtain rfl : k = 0 := by omega
        exact ⟨x, rfl, hx⟩
      · split at hk
        · omega
        · obtain ⟨y, hy, hy2⟩ := ih (k - 1) (by omega)
          refine ⟨y, ?_, hy2⟩
          obtain ⟨j, rfl⟩ : ∃ j, k = j + 1 := ⟨k - 1, by omega⟩
          simpa using hy
  obtain ⟨x, hx, hc⟩ := key s.l k hk
  have hv := h.l x (List.mem_of_getElem? hx)
  simp only [clashT, Bool.and_eq_true, decide_eq_true_eq] at hc
  exact ⟨x, hx, by omega, by omega, by omega, by omega, by omega, hc.2⟩
/-- What Clash answers. -/
def cwD (s : Surv) : D :=
  if sFault s = 0 then
    (if 0 ≤ clash s then .tup [.int .i64 (clash s), .lst (wayS s ((s.l[(clash s).toNat]?.map fun x => x.f.toNat).getD 0) ((s.l[(clash s).toNat]?.map fun x => x.t.toNat).getD 0)).length
      ((iN (wayS s ((s.l[(clash s).toNat]?.map fun x => x.f.toNat).getD 0) ((s.l[(clash s).toNat]?.map fun x => x.t.toNat).getD 0))).flatMap intE), .int .i64 0]
    else .tup [.int .i64 0, .nils, .int .i64 7])
  else .tup [.int .i64 0, .nils, .int .i64 (sFault s)]
theorem C_Clash {s : Surv} (hl : s.l.length ≤ 100000) (hσ : σ ≠ []) : lim T (.call false i_trial_Clash [.agg [.int .i64 s.w, .int .i64 s.lv, .lst s.l.length (s.l.flatMap Seen.enc)]] σ) = some (.val (cwD s) σ) := by
  refine call_of T_trial_Clash e_trial_Clash rfl ?_
  have hf := fun σ => @C_checkS σ s hl
  by_cases h0 : sFault s = 0
  rotate_left
  · simp [-List.length_flatMap, -List.map_take, e_trial_Clash_r0, e_trial_Clash_r1, e_trial_Clash_r2, e_trial_Clash_r3, e_trial_Clash_r4, e_trial_Clash_r5, e_trial_Clash_r6, e_trial_Clash_r7, hf, h0, cwD]
  have h := sFault_sv h0
  have hg := fun σ => @C_groups σ s h
  have hc := fun σ => @C_clash1 σ s h
  by_cases h1 : 0 ≤ clash s
  rotate_left
  · have h1' : clash s < 0 := by omega
    simp [-List.length_flatMap, -List.map_take, e_trial_Clash_r0, e_trial_Clash_r1, e_trial_Clash_r2, e_trial_Clash_r3, e_trial_Clash_r4, e_trial_Clash_r5, e_trial_Clash_r6, e_trial_Clash_r7, hf, h0, hg, hc, h1, h1', cwD]
  obtain ⟨k, hk⟩ : ∃ k : Nat, clash s = k := ⟨(clash s).toNat, by omega⟩
  obtain ⟨x, hx, x1, x2, x3, x4, x5, x6⟩ := clash_at h hk
  have hw := C_way (σ := [] :: σ) h x1 x2 x5 x6 (by simp)
  have e1 : (s.l[(clash s).toNat]?.map fun x => x.f.toNat).getD 0 = x.f.toNat := by rw [hk, Int.toNat_natCast, hx]; rfl
  have e2 : (s.l[(clash s).toNat]?.map fun x => x.t.toNat).getD 0 = x.t.toNat := by rw [hk, Int.toNat_natCast, hx]; rfl
  unfold cwD
  rw [e1, e2, if_pos h0, if_pos h1, hk]
  rw [hk] at hc
  have hkl := (List.getElem?_eq_some_iff.1 hx).1
  have a1 := flat_at (f := Seen.enc) (w := 4) (fun _ => rfl) hx
  simp only [Seen.enc] at a1
  rw [x3, x4] at a1
  clear e1 e2
  have hcl : D.cleanL ((iN (wayS s x.f.toNat x.t.toNat)).flatMap intE) = true := k_clean (fun x => by simp) _
  generalize wayS s x.f.toNat x.t.toNat = wy at *
  generalize x.f.toNat = A at *
  generalize x.t.toNat = B at *
  simp [-List.length_flatMap, -List.map_take, e_trial_Clash_r0, e_trial_Clash_r1, e_trial_Clash_r2, e_trial_Clash_r3, e_trial_Clash_r4, e_trial_Clash_r5, e_trial_Clash_r6, e_trial_Clash_r7, hf, h0, hg, hc, hkl, a1, hw, hcl]
/-- What Groups answers. -/
def grD (s : Surv) : D := if sFault s = 0 then .tup [.lst (grp s).length ((grp s).flatMap intE), .int .i64 0] else .tup [.nils, .int .i64 (sFault s)]
theorem C_cloneI {n : Nat} {F : List Blk} {cs : List D} (hF : F[0]? = some (.cells 0 cs)) (hc : n + 1 + 3 ≤ cs.length) (hn : n ≤ 100) (hcl : D.cleanL ((cs.drop 3).take (n + 1)) = true) :
    lim T (.call false i_slices_Clone_int [.sl σ.length 0 0 3 (n + 1) 1] (F :: σ)) = some (.val (.lst (n + 1) ((cs.drop 3).take (n + 1))) (F :: σ)) := by
  refine call_of T_slices_Clone_int e_slices_Clone_int rfl ?_
  have h7 : (n + 1) * 8 ≤ room := by unfold room; omega
  have h8 : 3 + (n + 1) ≤ cs.length := by omega
  simp [-List.length_flatMap, -List.map_take, e_slices_Clone_int_r0, e_slices_Clone_int_r1, e_slices_Clone_int_r2, e_slices_Clone_int_r3, hF, h7, h8]
  have h9 : ((cs.drop 3).take (n + 1)).take ((n + 1) * 1) = (cs.drop 3).take (n + 1) := List.take_of_length_le (by simp; omega)
  rw [frz_sl (by omega) (cs := (cs.drop 3).take (n + 1)) (by simp) (by omega)]
  simp only [List.drop_zero, h9]
  simp [hcl]
theorem gI_take {g : Lab} {W : Nat} (hW : W ≤ 10) : ((gI 10 g).flatMap intE).take W = (gI W g).flatMap intE := by
  have h1 : (gI 10 g).take W = gI W g := by
    unfold gI
    rw [← List.map_take, List.take_range, Nat.min_eq_left hW]
  have h2 : gI 10 g = gI W g ++ (gI 10 g).drop W := by rw [← h1, List.take_append_drop]
  rw [h2, List.flatMap_append, List.take_left' g1_len]
theorem C_Groups {s : Surv} (hl : s.l.length ≤ 100000) (hσ : σ ≠ []) : lim T (.call false i_trial_Groups [.agg [.int .i64 s.w, .int .i64 s.lv, .lst s.l.length (s.l.flatMap Seen.enc)]] σ) = some (.val (grD s) σ) := by
  refine call_of T_trial_Groups e_trial_Groups rfl ?_
  have hf := fun σ => @C_checkS σ s hl
  by_cases h0 : sFault s = 0
  rotate_left
  · simp [-List.length_flatMap, -List.map_take, e_trial_Groups_r0, e_trial_Groups_r1, e_trial_Groups_r2, e_trial_Groups_r3, e_trial_Groups_r4, e_trial_Groups_r5, hf, h0, grD]
  have h := sFault_sv h0
  have hg := fun σ => @C_groups σ s h
  have a3 := @pv_len s (Gr s)
  have t0 : (pv s (Gr s)).take 13 = pv s (Gr s) := List.take_of_length_le (by rw [pv_len]; exact Nat.le_refl _)
  have hw := h.w
  obtain ⟨n, hn⟩ : ∃ n : Nat, s.w = (n + 1 : Nat) := ⟨(s.w - 1).toNat, by omega⟩
  have e0 : s.w.toNat = n + 1 := by omega
  have e1 : 0 ≤ s.w := by omega
  have e2 : s.w ≤ 10 := by omega
  have e3 : ((pv s (Gr s)).drop 3).take (n + 1) = (gI (n + 1) (Gr s)).flatMap intE := gI_take (by omega)
  have hcl : D.cleanL ((gI (n + 1) (Gr s)).flatMap intE) = true := k_clean (fun x => by simp) _
  have hc := C_cloneI (σ := σ) (n := n) (F := [.cells 0 (pv s (Gr s))]) (cs := pv s (Gr s)) rfl (by rw [a3]; omega) (by omega) (by rw [e3]; exact hcl)
  rw [e3] at hc
  have e4 : grp s = gI (n + 1) (Gr s) := by unfold grp; rw [e0]
  unfold grD
  rw [if_pos h0, e4, gI_len]
  simp [-List.length_flatMap, -List.map_take, e_trial_Groups_r0, e_trial_Groups_r1, e_trial_Groups_r2, e_trial_Groups_r3, e_trial_Groups_r4, e_trial_Groups_r5, hf, h0, hg, a3, t0, e0, e1, e2, hc, hcl]
end Go.Proofs.Ytcjjdaifpboaaaa
