/-
  TopParts.
-/
import Derived.Test.YtehandllpmlcoaaT7
import Derived.Test.YtehandllpmlcoaaTremTyK
set_option linter.unusedVariables false
set_option linter.unusedSimpArgs false
namespace Go.Proofs.Ytehandllpmlcoaa
open Go Go.Abs Go.Rock
variable {σ : Stack}

theorem L_rel1 {n i : Nat} {ps : List Int} {l : List Trial.Seen} (hn : 1 ≤ n ∧ n ≤ 8) (hps : ps.length = n) (hl : ∀ x ∈ l, Felt n ps x) (hi : i < n) : ∀ (m k : Nat), k + m = n →
    WL T [7, 13, 31, 33, 34] false f_top_TopParts_l77 [(7, .int .i64 n), (13, .lst n (ps.flatMap intE)), (31, .lst n (Srv.relM ⟨n, 1, l⟩ n)), (33, .int .i64 i), (34, .int .i64 k)] σ
      (fun x e σ' => x = .exit 14 ∧ get e 7 = .int .i64 n ∧ get e 13 = .lst n (ps.flatMap intE) ∧ get e 31 = .lst n (Srv.relM ⟨n, 1, l⟩ n) ∧ get e 33 = .int .i64 i ∧ σ' = σ)
  | 0, k, hk => by
    refine WL_step e_top_TopParts_l77 ?_
    obtain rfl : k = n := by omega
    simp [-List.length_flatMap, -List.map_take, eF]
  | m + 1, k, hk => by
    refine WL_step e_top_TopParts_l77 ?_
    have h1 : k < n := by omega
    have h4 := wnext h1 (by omega)
    have ih := L_rel1 hn hps hl hi m (k + 1) (by omega)
    have hrow : ((Srv.relM ⟨n, 1, l⟩ n).drop i).take 1 = [Srv.rowD ⟨n, 1, l⟩ n i] := by
      have : (Srv.relM ⟨n, 1, l⟩ n)[i]? = some (Srv.rowD ⟨n, 1, l⟩ n i) := by simp [Srv.relM, hi]
      rw [drop_at this]; simp
    obtain ⟨r1, r2⟩ := felt_rel hl i k
    have hat : (((Srv.relR ⟨n, 1, l⟩ n i).flatMap Srv.u8E).drop k).take 1 = [.int .u8 (Trial.relOf ⟨n, 1, l⟩ i k)] := by
      have hx : (Srv.relR ⟨n, 1, l⟩ n i)[k]? = some (Trial.relOf ⟨n, 1, l⟩ i k) := by simp [Srv.relR, h1]
      have := flat_at (f := Srv.u8E) (w := 1) (fun _ => rfl) hx
      simpa using this
    obtain ⟨a, ha⟩ : ∃ a, ps[i]? = some a := ⟨_, List.getElem?_eq_getElem (by omega)⟩
    obtain ⟨b, hb⟩ : ∃ a, ps[k]? = some a := ⟨_, List.getElem?_eq_getElem (by omega)⟩
    have a1 := intE_at ha
    have a2 := intE_at hb
    have e1 : Srv.pAt ps i = a := by simp [Srv.pAt, ha]
    have e2 : Srv.pAt ps k = b := by simp [Srv.pAt, hb]
    rw [e1, e2] at r2
    have hrow' : Srv.rowD ⟨n, 1, l⟩ n i = .lst n ((Srv.relR ⟨n, 1, l⟩ n i).flatMap Srv.u8E) := rfl
    rw [hrow'] at hrow
    generalize Trial.relOf ⟨n, 1, l⟩ i k = v at *
    by_cases hv : v = 2
    · subst hv
      have hab := r2 rfl
      simp [-List.length_flatMap, -List.map_take, eF, h1, hi, h4, hrow, hat, a1, a2, hab]
      exact WL.to ih (by simp) rfl fun x e σ hh => hh
    · simp [-List.length_flatMap, -List.map_take, eF, h1, hi, h4, hrow, hat, a1, a2, hv, r1]
      exact WL.to ih (by simp) rfl fun x e σ hh => hh
theorem L_rel {n : Nat} {ps : List Int} {l : List Trial.Seen} (hn : 1 ≤ n ∧ n ≤ 8) (hps : ps.length = n) (hl : ∀ x ∈ l, Felt n ps x) : ∀ (m i : Nat), i + m = n →
    WL T [7, 13, 31, 33] false f_top_TopParts_l79 [(7, .int .i64 n), (13, .lst n (ps.flatMap intE)), (31, .lst n (Srv.relM ⟨n, 1, l⟩ n)), (33, .int .i64 i)] σ
      (fun x e σ' => x = .exit 12 ∧ σ' = σ)
  | 0, i, hi => by
    refine WL_step e_top_TopParts_l79 ?_
    obtain rfl : i = n := by omega
    simp [-List.length_flatMap, -List.map_take, eF]
  | m + 1, i, hi => by
    refine WL_step e_top_TopParts_l79 ?_
    have h1 : i < n := by omega
    have h4 := wnext h1 (by omega)
    have ih := L_rel hn hps hl m (i + 1) (by omega)
    have hrow : ((Srv.relM ⟨n, 1, l⟩ n).drop i).take 1 = [.lst n ((Srv.relR ⟨n, 1, l⟩ n i).flatMap Srv.u8E)] := by
      have : (Srv.relM ⟨n, 1, l⟩ n)[i]? = some (Srv.rowD ⟨n, 1, l⟩ n i) := by simp [Srv.relM, h1]
      rw [drop_at this]; rfl
    simp [-List.length_flatMap, -List.map_take, eF, h1, hrow]
    refine WL.to (L_rel1 (σ := σ) hn hps hl h1 n 0 (by omega)) (by simp) rfl ?_
    rintro x e σ' ⟨rfl, g7, g13, g31, g33, rfl⟩
    simp [-List.length_flatMap, -List.map_take, eF, g7, g13, g31, g33, h4]
    exact WL.to ih (by simp) rfl fun x e σ hh => hh
theorem C_ThreeK : lim T (.call true i_law01_Three [] σ) = some (.val (.lst 3 (three.flatMap Rw.enc)) σ) := by
  refine call_kp T_law01_Three e_law01_Three rfl ?_
  simp [-List.length_flatMap, -List.map_take, eF, three]
theorem law_Parts {os pu : List Int} {tk : Nat} (hos : ∀ o ∈ os, 0 ≤ o ∧ o ≤ 255) (hpb : ∀ o ∈ pu, 0 ≤ o ∧ o ≤ 255) (htk : tk ≤ 255) :
    lim T (.call false i_top_TopParts [.lst os.length (os.flatMap b8E), .lst pu.length (pu.flatMap b8E), .int .u8 tk] [[]]) = some (.val (.bool true) [[]]) := by
  refine call_of T_top_TopParts e_top_TopParts rfl ?_
  have hS := fun σ hσ => C_still (σ := σ) hσ
  by_cases hc1 : os.length < 1
  · have h0 : os = [] := List.length_eq_zero_iff.1 (by omega)
    subst h0
    simp [-List.length_flatMap, -List.map_take, eF, hS]
  have hne : os ≠ [] := fun h => by rw [h] at hc1; simp at hc1
  have hc1' : ¬ (os.length : Int) < 1 := by omega
  by_cases hc2 : 8 < os.length
  · simp [-List.length_flatMap, -List.map_take, eF, hS, hc1, hc1', hne, hc2, show (8 : Int) < os.length by omega]
  have hc2' : ¬ (8 : Int) < os.length := by omega
  by_cases hc3 : 4 < pu.length
  · simp [-List.length_flatMap, -List.map_take, eF, hS, hc1, hc1', hne, hc2, hc2', hc3, show (4 : Int) < pu.length by omega]
  have hc3' : ¬ (4 : Int) < pu.length := by omega
  have hn : 1 ≤ os.length ∧ os.length ≤ 8 := by omega
  simp [-List.length_flatMap, -List.map_take, eF, hc1, hc1', hne, hc2, hc2', hc3, hc3', C_ThreeK]
  refine WL.to (L_vals (σ := [[]]) hn hos (d1 := .lst pu.length (pu.flatMap b8E)) (d2 := .int .u8 tk) (d8 := bd8 os.length (.sl 1 0 0 0 0 3)) (by simp) (by simp) (by simp [bd8]) (A := .cells 0 []) 4 0 0 (by omega) (by omega)) (by simp [bd8]) (by simp) ?_
  rintro x e σ' ⟨rfl, g0, g1, g2, g7, g8, g9, rfl⟩
  have hfz9 := k_frz (f := intE) (w := 1) (fun _ => rfl) (fun x => by simp) (l := (rowM os).vals) (j := 1) (v := (rowM os).vals.length) (bs := [.cells 0 [], .cells (rowM os).vals.length ((rowM os).vals.flatMap intE)]) (σ := [[]]) (by simp) rfl
  simp only [List.length_cons, List.length_nil, Nat.zero_add, List.set_cons_succ, List.set_cons_zero] at hfz9
  have hroom : (os.length : Int) * 8 ≤ (room : Int) := by unfold room; omega
  have zps : ((List.range os.length).flatMap fun _ => [D.int .i64 0]) = (psAt os 0).flatMap intE := by
    rw [zer]; congr 1; simp [psAt]
    apply List.ext_getElem?
    intro j
    simp only [List.getElem?_replicate, List.getElem?_map]
    by_cases hj : j < os.length
    · simp [hj]
    · simp [hj]
  simp [-List.length_flatMap, -List.map_take, eF, g0, g1, g2, g7, g8, g9, hfz9, hroom, zps]
  refine WL.to (L_pw (σ := [[]]) hn hos (d1 := .lst pu.length (pu.flatMap b8E)) (d2 := .int .u8 tk) (d9 := .own 0 (mdL os)) (by simp) (by simp) (by simp) (A := .dead) os.length 0 (by omega)) (by simp [bd8, mdL]) (by simp) ?_
  rintro x e σ' ⟨rfl, g1, g2, g7, g8, g9, g13, rfl⟩
  have hwl := row_wells (n := os.length)
  have hfz8 := k_frz (f := Bore.enc) (w := 3) (fun _ => rfl) (fun x => by simp) (l := (rowB os.length).wells) (j := 0) (v := os.length) (bs := [.cells os.length ((rowB os.length).wells.flatMap Bore.enc), .dead, .cells 0 ((psAt os os.length).flatMap intE)]) (σ := [[]]) (by simp) rfl
  have hfz13 := k_frz (f := intE) (w := 1) (fun _ => rfl) (fun x => by simp) (l := psAt os os.length) (j := 2) (v := 0) (bs := [.dead, .dead, .cells 0 ((psAt os os.length).flatMap intE)]) (σ := [[]]) (by simp) rfl
  rw [hwl] at hfz8
  rw [psAt_len] at hfz13
  simp only [List.length_cons, List.length_nil, Nat.zero_add, List.set_cons_succ, List.set_cons_zero] at hfz8 hfz13
  simp only [bd8] at g8
  have c3 : (D.lst 3 (three.flatMap Rw.enc)).clean = true := by simp [D.clean, cl_rw]
  simp [-List.length_flatMap, -List.map_take, eF, g1, g2, g7, g8, g9, g13, hfz8, hfz13, c3]
  have c1 : (D.lst pu.length (pu.flatMap b8E)).clean = true := by simp [D.clean, cl_b8]
  have c8 : (D.own 0 (bdL os.length)).clean = true := by simp [D.clean, bdL_clean]
  have c9 : (D.own 0 (mdL os)).clean = true := by simp [D.clean, mdL_clean]
  have c13 : (D.lst os.length ((psAt os os.length).flatMap intE)).clean = true := by simp [D.clean, cl_int]
  have hI := L_idle (σ := [[]]) (n := os.length) (tk := tk) hn htk (d1 := .lst pu.length (pu.flatMap b8E)) (d8 := .own 0 (bdL os.length)) (d9 := .own 0 (mdL os)) (d13 := .lst os.length ((psAt os os.length).flatMap intE)) (by simp) (by simp) (by simp) (by simp) c1 c8 c9 c13 (A := .dead) (B := .dead) (C := .dead) (tk % 6 + 1) 0 (by omega)
  refine WL.to hI (by simp [bdL]) (by simp [idl]) ?_
  rintro x e σ' ⟨rfl, g1, g7, g8, g9, g13, g15, rfl⟩
  have hT : tk % 6 ≤ 5 := by omega
  generalize tk % 6 = T' at *
  have hil : (idl os.length (T' + 1)).length = T' + 1 := by simp [idl]
  have hfz15 := k_frz (f := inL) (w := 1) (fun _ => rfl) (fun x => by simp [inL, D.clean, cl_int]) (l := idl os.length (T' + 1)) (j := 3) (v := T' + 1) (bs := [.dead, .dead, .dead, .cells (T' + 1) ((idl os.length (T' + 1)).flatMap inL)]) (σ := [[]]) (by simp) rfl
  rw [hil] at hfz15
  simp only [List.length_cons, List.length_nil, Nat.zero_add, List.set_cons_succ, List.set_cons_zero] at hfz15
  have hPn := fun σ hσ => C_PlanL (σ := σ) (t := idl os.length (T' + 1)) (by rw [hil]; omega) (fun l hl => by rw [(List.mem_replicate.1 hl).2]; simp; omega) hσ
  rw [hil] at hPn
  obtain ⟨ss, ys, s, hrun, hsl, hsT, hcold⟩ := quiet_run hos hn (T := T' + 1) (by omega)
  have hPl := fun σ hσ => C_playR (σ := σ) hn hos (t := idl os.length (T' + 1)) (by rw [hil]; omega) (fun r hr => by
    rw [(List.mem_replicate.1 hr).2]
    exact ⟨by simp, fun x hx => .inl (List.mem_replicate.1 hx).2⟩) hrun hσ
  rw [hil, hsl] at hPl
  have hPr := fun σ hσ => C_pressR (σ := σ) hn hos hcold hσ
  have hpz : pressures (rowB os.length) (rowM os) s = pz0 os.length := by
    apply List.ext_getElem?
    intro j
    by_cases hj : j < os.length
    · rw [(cold_pressures hcold).2 j hj]
      obtain ⟨h1, h2, h3, h4, h5⟩ := hcold.at_ j hj
      have := h5 (by decide)
      rw [this]
      simp [pz0, hj]
    · rw [List.getElem?_eq_none (by rw [(cold_pressures hcold).1]; omega), List.getElem?_eq_none (by simp [pz0]; omega)]
  rw [hpz] at hPr
  have hsTd := k_drop (f := stL) (w := 1) (fun _ => rfl) hsT
  simp only [Nat.mul_one, stL, List.singleton_append] at hsTd
  have hlt2 : ((T' : Int) + 1) < (T' : Int) + 2 := by omega
  have hT0 : (0 : Int) ≤ (T' : Int) + 1 := by omega
  have w5 := w64 (n := (T' : Int) + 1 + 1) (by omega)
  have w6 : (T' : Int) + 1 + 1 = (T' : Int) + 2 := by omega
  have w7 := w64 (n := (T' : Int) + 2) (by omega)
  simp [-List.length_flatMap, -List.map_take, eF, g1, g7, g8, g9, g13, g15, hfz15, bdL_len, mdL_len, bdL_take, mdL_take, hPn, hPl, hPr, hsTd, hlt2, hT0, w5, w6, w7]
  have hL := L_pulse (σ := [[]]) (os := os) (pu := pu) (T' := T') hn hos (by omega) hpb hT (A := .dead) (B := .dead) (C := .dead) (E := .dead) pu.length 0 [] (by omega) (by simp) (by simp)
  refine WL.to hL (by simp [d8P, d9P]) (by simp) ?_
  rintro x e σ' ⟨r, hrl, hrF, rfl, g7, g13, g21, rfl⟩
  have hfz21 := k_frz (f := Trial.Seen.enc) (w := 4) (fun _ => rfl) (fun x => by simp) (l := r) (j := 4) (v := r.length) (bs := [.dead, .dead, .dead, .dead, .cells r.length (r.flatMap Trial.Seen.enc)]) (σ := [[]]) (by simp) rfl
  simp only [List.length_cons, List.length_nil, Nat.zero_add, List.set_cons_succ, List.set_cons_zero] at hfz21
  have hsf := felt_fault (ps := psAt os os.length) hn (by omega) hrF
  have hF := fun σ => Srv.C_Fits (σ := σ) (s := ⟨os.length, 1, r⟩) (by simp only; omega) (ps := psAt os os.length)
  have hRel := fun σ hσ => Srv.C_Relations (σ := σ) (s := ⟨os.length, 1, r⟩) (by simp only; omega) hσ
  have hrd : Srv.relD ⟨os.length, 1, r⟩ = .tup [.lst os.length (Srv.relM ⟨os.length, 1, r⟩ os.length), .int .i64 0] := by
    unfold Srv.relD
    rw [if_pos hsf, if_neg (felt_clash hrF)]
    simp
  rw [hrd] at hRel
  have hpl := psAt_len (os := os) (i := os.length)
  rw [felt_fit hrF] at hF
  simp only [hsf, hpl, decide_true, Bool.and_self] at hF
  have hF' : ∀ σ : Stack, lim T (.call false i_trial_Fits [.agg [.int .i64 os.length, .int .i64 1, .lst r.length (r.flatMap Trial.Seen.enc)], .lst os.length ((psAt os os.length).flatMap Rock.intE)] σ) = some (.val (.bool true) σ) := hF
  simp [-List.length_flatMap, -List.map_take, eF, g7, g13, g21, hfz21, hF', hRel]
  refine WL.to (L_rel (σ := [[.dead, .dead, .dead, .dead, .dead], []]) hn hpl hrF os.length 0 (by omega)) (by simp) rfl ?_
  rintro x e σ' ⟨rfl, rfl⟩
  simp [-List.length_flatMap, -List.map_take, eF, hS]
theorem go_TopParts (x0 x1 x2 : D) (t0 : (Ty.slice 1 (.int .u8)).hasV x0) (t1 : (Ty.slice 1 (.int .u8)).hasV x1) (t2 : (Ty.int .u8).hasV x2) :
    ∃ σ', lim T (.call false i_top_TopParts [x0, x1, x2] [[]]) = some (.val (.bool true) σ') := by
  obtain ⟨l, rfl, _, hl⟩ := rows_of (f := b8E) (Q := fun n => 0 ≤ n ∧ n ≤ 255) (fun ds h => by
    simp only [Ty.has] at h
    obtain ⟨n, rfl, hw⟩ := h
    exact ⟨n, rfl, wf_u8 hw⟩) t0
  obtain ⟨p, rfl, _, hp⟩ := rows_of (f := b8E) (Q := fun n => 0 ≤ n ∧ n ≤ 255) (fun ds h => by
    simp only [Ty.has] at h
    obtain ⟨n, rfl, hw⟩ := h
    exact ⟨n, rfl, wf_u8 hw⟩) t1
  obtain ⟨k, rfl, hk⟩ := u8_of t2
  have := law_Parts (os := l) (pu := p) (tk := k.toNat) hl hp (by omega)
  rw [Int.toNat_of_nonneg hk.1] at this
  exact ⟨_, this⟩
end Go.Proofs.Ytehandllpmlcoaa
