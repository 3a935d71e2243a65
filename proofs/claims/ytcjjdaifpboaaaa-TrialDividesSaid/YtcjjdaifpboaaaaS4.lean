/-
  Clashes and relations, of both.
-/
import Derived.Test.YtcjjdaifpboaaaaS3
set_option linter.unusedVariables false
set_option linter.unusedSimpArgs false
namespace Go.Proofs.Ytcjjdaifpboaaaa
open Go Go.Abs Go.Trial
variable {σ : Stack}

theorem nat_of {w x : Int} (h : 0 ≤ x ∧ x < w) (hw : w ≤ 10) : ∃ F : Nat, x = F ∧ F < 10 := ⟨x.toNat, by omega, by omega⟩
theorem C_cl1 {s : Surv} {g : Lab} {F U : Nat} {d : Rg} (hF : F < 10) (hU : U < 10) :
    lim T (.call false i_trial_parted_clash_1 [.agg [.int .i64 F, .int .i64 U, .int .i64 d.lo, .int .i64 d.hi], .cref (pv s g)] σ) = some (.val (.bool (agin s ⟨F, U, d⟩ && decide (g F = g U))) σ) := by
  refine call_of T_trial_parted_clash_1 e_trial_parted_clash_1 rfl ?_
  have hA := fun σ => @C_apart σ s ⟨F, U, d⟩
  simp only [Seen.enc] at hA
  have t3 : (pv s g).take 3 = s.enc := rfl
  have a1 := pv_at (s := s) (g := g) hF
  have a2 := pv_at (s := s) (g := g) hU
  have hF' : (F : Int) < 10 := by omega
  have hU' : (U : Int) < 10 := by omega
  have a3 := @pv_len s g
  have hq : ((g F : Int) == (g U : Int)) = decide (g F = g U) := by rw [Bool.eq_iff_iff]; simp; omega
  cases ha : agin s ⟨F, U, d⟩
  · rw [ha] at hA
    simp [-List.length_flatMap, -List.map_take, e_trial_parted_clash_1_r0, e_trial_parted_clash_1_r1, t3, hA, a3]
  · rw [ha] at hA
    simp [-List.length_flatMap, -List.map_take, e_trial_parted_clash_1_r0, e_trial_parted_clash_1_r1, t3, hA, hF', hU', a1, a2, a3, hq]
def eltSeen : Elt Seen := eltAgg 4 Seen.enc (fun _ => rfl)
theorem C_clash1 {s : Surv} (h : Sv s) : lim T (.call false i_trial_parted_clash [.agg (pv s (Gr s))] σ) = some (.val (.int .i64 (clash s)) σ) := by
  refine call_of T_trial_parted_clash e_trial_parted_clash rfl ?_
  have hn := h.n
  have hI : ∀ σ, lim T (.call false i_slices_IndexFunc_trial_Seen [.lst s.l.length (s.l.flatMap Seen.enc), .fn i_trial_parted_clash_1 [] [.cref (pv s (Gr s))]] σ) = some (.val (.int .i64 (clash s)) σ) := fun σ =>
    index_of eltSeen T_slices_IndexFunc_trial_Seen (by omega) (.fn fun x hx σ => by
      have hv := h.l x hx
      have hw := h.w
      obtain ⟨f, t, d⟩ := x
      obtain ⟨F, rfl, hF⟩ := nat_of hv.1 hw.2
      obtain ⟨U, rfl, hU⟩ := nat_of hv.2.1 hw.2
      exact C_cl1 hF hU)
  have t4 : (pv s (Gr s)).drop 2 = .lst s.l.length (s.l.flatMap Seen.enc) :: (pv s (Gr s)).drop 3 := rfl
  have a3 := @pv_len s (Gr s)
  simp [-List.length_flatMap, -List.map_take, e_trial_parted_clash_r0, e_trial_parted_clash_r1, t4, a3, hI]
def checkedD (s : Surv) : D := if sFault s = 0 then (if 0 ≤ clash s then .tup [.agg z13, .int .i64 9] else .tup [.agg (pv s (Gr s)), .int .i64 0]) else .tup [.agg z13, .int .i64 (sFault s)]
theorem pv_clean {s : Surv} {g : Lab} : D.cleanL (pv s g) = true := by
  have h1 : D.cleanL (s.l.flatMap Seen.enc) = true := k_clean (fun x => by simp) _
  have h2 : D.cleanL ((gI 10 g).flatMap intE) = true := k_clean (fun x => by simp) _
  simp [pv, D.cleanL, D.clean, h1, h2]
theorem C_checked {s : Surv} (hl : s.l.length ≤ 100000) : lim T (.call false i_trial_checked [.agg [.int .i64 s.w, .int .i64 s.lv, .lst s.l.length (s.l.flatMap Seen.enc)]] σ) = some (.val (checkedD s) σ) := by
  refine call_of T_trial_checked e_trial_checked rfl ?_
  have hf := fun σ => @C_checkS σ s hl
  by_cases h0 : sFault s = 0
  rotate_left
  · simp [-List.length_flatMap, -List.map_take, e_trial_checked_r0, e_trial_checked_r1, e_trial_checked_r2, e_trial_checked_r3, e_trial_checked_r4, e_trial_checked_r5, e_trial_checked_r6, e_trial_checked_r7, hf, h0, checkedD, z13]
  have h := sFault_sv h0
  have hg := fun σ => @C_groups σ s h
  have hc := fun σ => @C_clash1 σ s h
  have a3 := @pv_len s (Gr s)
  have t0 : (pv s (Gr s)).take 13 = pv s (Gr s) := List.take_of_length_le (by rw [pv_len]; exact Nat.le_refl _)
  have a4 := @pv_clean s (Gr s)
  by_cases h1 : 0 ≤ clash s
  · simp [-List.length_flatMap, -List.map_take, e_trial_checked_r0, e_trial_checked_r1, e_trial_checked_r2, e_trial_checked_r3, e_trial_checked_r4, e_trial_checked_r5, e_trial_checked_r6, e_trial_checked_r7, hf, h0, hg, hc, a3, t0, a4, h1, checkedD, z13]
  · simp [-List.length_flatMap, -List.map_take, e_trial_checked_r0, e_trial_checked_r1, e_trial_checked_r2, e_trial_checked_r3, e_trial_checked_r4, e_trial_checked_r5, e_trial_checked_r6, e_trial_checked_r7, hf, h0, hg, hc, a3, t0, a4, h1, checkedD, z13]

theorem L_ClashR {s : Surv} (h : Sv s) {W : Nat} (hW : s.w = W) : ∀ (m i : Nat), i + m = s.l.length →
    WL T [1, 3, 4] false f_ref04_Clash_l8 [(1, .cref s.enc), (3, .lst W ((gI W (Gr s)).flatMap intE)), (4, .int .i64 i)] σ
      (fun x e σ' => σ' = σ ∧ if idxOf (clashT s) (s.l.drop i) < 0 then x = .exit 0 else x = .ret ∧ get e 2 = .int .i64 (i + idxOf (clashT s) (s.l.drop i)))
  | 0, i, hi => by
    refine WL_step e_ref04_Clash_l8 ?_
    have h1 : ¬ i < s.l.length := by omega
    have h2 : s.l.drop i = [] := List.drop_eq_nil_of_le (by omega)
    simp [-List.length_flatMap, -List.map_take, e_ref04_Clash_r0, e_ref04_Clash_r1, e_ref04_Clash_r2, e_ref04_Clash_r3, e_ref04_Clash_r4, e_ref04_Clash_r5, e_ref04_Clash_r6, e_ref04_Clash_r7, e_ref04_Clash_r9, h1, h2, idxOf]
  | m + 1, i, hi => by
    refine WL_step e_ref04_Clash_l8 ?_
    have h1 : i < s.l.length := by omega
    obtain ⟨x, hx⟩ : ∃ x, s.l[i]? = some x := ⟨_, List.getElem?_eq_getElem h1⟩
    have hn := h.n
    have hw := h.w
    have h4 := wnext h1 (by omega)
    have hv := h.l x (List.mem_of_getElem? hx)
    have ih := L_ClashR h hW m (i + 1) (by omega)
    have h2 := flat_at (f := Seen.enc) (w := 4) (fun _ => rfl) hx
    have hA := fun σ => @C_Against σ s x
    have e1 : idxOf (clashT s) (s.l.drop i) = if clashT s x then 0 else if idxOf (clashT s) (s.l.drop (i + 1)) < 0 then -1 else idxOf (clashT s) (s.l.drop (i + 1)) + 1 := by rw [dropS hx]; rfl
    rw [e1]
    generalize idxOf (clashT s) (s.l.drop (i + 1)) = I at *
    obtain ⟨f, t, d⟩ := x
    obtain ⟨F, rfl, hF⟩ := nat_of hv.1 hw.2
    obtain ⟨U, rfl, hU⟩ := nat_of hv.2.1 hw.2
    dsimp only at hv
    have lF : F < W := by have := hv.1; omega
    have lU : U < W := by have := hv.2.1; omega
    have a1 := g1_at (g := Gr s) lF
    have a2 := g1_at (g := Gr s) lU
    have a3 := @g1_len W (Gr s)
    have hq : ((Gr s F : Int) == (Gr s U : Int)) = decide (Gr s F = Gr s U) := by rw [Bool.eq_iff_iff]; simp; omega
    simp only [Seen.enc] at hA h2
    have fin : clashT s ⟨F, U, d⟩ = false → WL T [1, 3, 4] false f_ref04_Clash_l8 [(1, .cref s.enc), (3, .lst W ((gI W (Gr s)).flatMap intE)), (4, .int .i64 (i + 1 : Nat))] σ
      (fun x e σ' => σ' = σ ∧ if (if I < 0 then (-1 : Int) else I + 1) < 0 then x = .exit 0 else x = .ret ∧ get e 2 = .int .i64 (i + if I < 0 then (-1 : Int) else I + 1)) := by
      intro _
      refine WL.to ih rfl rfl ?_
      rintro x e σ' ⟨rfl, hh⟩
      refine ⟨rfl, ?_⟩
      by_cases hI : I < 0
      · rw [if_pos hI] at hh
        rw [if_pos hI, if_pos (by omega)]
        exact hh
      · rw [if_neg hI] at hh
        rw [if_neg hI, if_neg (by omega)]
        refine ⟨hh.1, ?_⟩
        rw [hh.2]
        congr 1
        omega
    cases ha : agin s ⟨F, U, d⟩
    · have e2 : clashT s ⟨F, U, d⟩ = false := by simp [clashT, ha]
      have fin := fin e2
      rw [ha] at hA
      rw [if_neg (by rw [e2]; simp)]
      simp [-List.length_flatMap, -List.map_take, e_ref04_Clash_r0, e_ref04_Clash_r1, e_ref04_Clash_r2, e_ref04_Clash_r3, e_ref04_Clash_r4, e_ref04_Clash_r5, e_ref04_Clash_r6, e_ref04_Clash_r7, e_ref04_Clash_r9, h1, h2, h4, hA]
      exact WL.to fin (by simp) rfl fun x e σ' hh => hh
    · rw [ha] at hA
      by_cases hg : Gr s F = Gr s U
      · have e2 : clashT s ⟨F, U, d⟩ = true := by simp [clashT, ha, hg]
        rw [if_pos e2]
        simp [-List.length_flatMap, -List.map_take, e_ref04_Clash_r0, e_ref04_Clash_r1, e_ref04_Clash_r2, e_ref04_Clash_r3, e_ref04_Clash_r4, e_ref04_Clash_r5, e_ref04_Clash_r6, e_ref04_Clash_r7, e_ref04_Clash_r9, h1, h2, h4, hA, lF, lU, a1, a2, a3, hq, hg]
      · have e2 : clashT s ⟨F, U, d⟩ = false := by simp [clashT, ha, hg]
        have fin := fin e2
        rw [if_neg (by rw [e2]; simp)]
        simp [-List.length_flatMap, -List.map_take, e_ref04_Clash_r0, e_ref04_Clash_r1, e_ref04_Clash_r2, e_ref04_Clash_r3, e_ref04_Clash_r4, e_ref04_Clash_r5, e_ref04_Clash_r6, e_ref04_Clash_r7, e_ref04_Clash_r9, h1, h2, h4, hA, lF, lU, a1, a2, a3, hq, hg]
        exact WL.to fin (by simp) rfl fun x e σ' hh => hh
theorem C_ClashR {s : Surv} (h : Sv s) : lim T (.call false i_ref04_Clash [.agg [.int .i64 s.w, .int .i64 s.lv, .lst s.l.length (s.l.flatMap Seen.enc)]] σ) = some (.val (.int .i64 (clash s)) σ) := by
  refine call_of T_ref04_Clash e_ref04_Clash rfl ?_
  have hw := h.w
  obtain ⟨W, hW⟩ : ∃ W : Nat, s.w = W := ⟨s.w.toNat, by omega⟩
  have hG := fun σ (hσ : σ ≠ []) => @C_GroupsR σ s h hσ
  have e0 : s.w.toNat = W := by omega
  simp only [grp, gI_len, e0] at hG
  simp [-List.length_flatMap, -List.map_take, e_ref04_Clash_r0, e_ref04_Clash_r1, e_ref04_Clash_r2, e_ref04_Clash_r3, e_ref04_Clash_r4, e_ref04_Clash_r5, e_ref04_Clash_r6, e_ref04_Clash_r7, e_ref04_Clash_r9, hG]
  refine WL.to (L_ClashR (σ := [] :: σ) h hW s.l.length 0 (by omega)) (by simp) rfl ?_
  rintro x e σ' ⟨rfl, hx⟩
  have e1 : idxOf (clashT s) (s.l.drop 0) = clash s := rfl
  rw [e1] at hx
  by_cases hc : clash s < 0
  · rw [if_pos hc] at hx
    subst hx
    have : clash s = -1 := by
      have key : ∀ l : List Seen, idxOf (clashT s) l < 0 → idxOf (clashT s) l = -1 := by
        intro l hl
        cases l with
        | nil => rfl
        | cons y l =>
          simp only [idxOf] at hl ⊢
          split at hl
          · omega
          · split at hl
            · rename_i h1 h2; rw [if_neg h1, if_pos h2]
            · omega
      exact key _ hc
    simp [-List.length_flatMap, -List.map_take, e_ref04_Clash_r0, e_ref04_Clash_r1, e_ref04_Clash_r2, e_ref04_Clash_r3, e_ref04_Clash_r4, e_ref04_Clash_r5, e_ref04_Clash_r6, e_ref04_Clash_r7, e_ref04_Clash_r9, this]
  · rw [if_neg hc] at hx
    obtain ⟨rfl, g⟩ := hx
    simp [-List.length_flatMap, -List.map_take, e_ref04_Clash_r0, e_ref04_Clash_r1, e_ref04_Clash_r2, e_ref04_Clash_r3, e_ref04_Clash_r4, e_ref04_Clash_r5, e_ref04_Clash_r6, e_ref04_Clash_r7, e_ref04_Clash_r9, g]
end Go.Proofs.Ytcjjdaifpboaaaa
