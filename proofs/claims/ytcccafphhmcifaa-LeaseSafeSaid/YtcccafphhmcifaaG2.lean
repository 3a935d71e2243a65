/-
  Springs of layer 11: all flows, harm, the room, of the program.
-/
import Derived.Test.YtcccafphhmcifaaG1
set_option linter.unusedVariables false
set_option linter.unusedSimpArgs false
namespace Go.Proofs.Ytcccafphhmcifaa
open Go Go.Abs Go.Lease
variable {σ : Stack}

theorem map_snoc {l : List Sp} {f : Sp → Rg} {j : Nat} {s : Sp} (h : l[j]? = some s) : ((l.take j).map f).flatMap Rg.enc ++ Rg.enc (f s) = ((l.take (j + 1)).map f).flatMap Rg.enc := by
  rw [List.take_add_one, h]
  simp
theorem L_Behind {l : List Sp} (h1 : spsOk l = true) {ts : List Int} (h2 : tkOk l ts = true) : ∀ (m j v : Nat), j + m = l.length →
    WL T [1, 7, 16, 17, 18] false f_lease_Behind_l10 [(1, .lst ts.length (ts.flatMap intE)), (7, .sl σ.length 0 v 0 j 2), (16, spsD l), (17, .int .i64 l.length), (18, .int .i64 j)] ([.cells v (((l.take j).map (beh ts)).flatMap Rg.enc)] :: σ)
      (fun x e σ' => x = .exit 0 ∧ get e 7 = .sl σ.length 0 (v + m) 0 (l.map (beh ts)).length 2 ∧ σ' = [.cells (v + m) ((l.map (beh ts)).flatMap Rg.enc)] :: σ)
  | 0, j, v, hi => by
    refine WL_step e_lease_Behind_l10 ?_
    have g1 : ¬ j < l.length := by omega
    have g2 : l.take j = l := List.take_of_length_le (by omega)
    have g3 : j = (l.map (beh ts)).length := by simp; omega
    rw [g2]
    simp [-List.length_flatMap, -List.map_take, e_lease_Behind_r0, e_lease_Behind_r1, e_lease_Behind_r2, e_lease_Behind_r3, e_lease_Behind_r4, e_lease_Behind_r5, e_lease_Behind_r6, e_lease_Behind_r7, e_lease_Behind_r8, e_lease_Behind_r9, e_lease_Behind_r11, g1, g3]
  | m + 1, j, v, hi => by
    refine WL_step e_lease_Behind_l10 ?_
    have hs1 := spsOk_iff.1 h1
    have g1 : j < l.length := by omega
    obtain ⟨s, hx⟩ : ∃ x, l[j]? = some x := ⟨_, List.getElem?_eq_getElem g1⟩
    have hB := fun σ => C_behind (σ := σ) h1 h2 (List.mem_of_getElem? hx)
    have a1 := sp_at hx
    have a2 := map_snoc (f := beh ts) hx
    have a3 := flat_len (f := Rg.enc) (w := 2) (fun _ => rfl) ((l.take j).map (beh ts))
    have a4 : min j l.length = j := by omega
    simp only [List.length_map, List.length_take, a4] at a3
    have a5 : (((l.take j).map (beh ts)).flatMap Rg.enc).take (j * 2) = ((l.take j).map (beh ts)).flatMap Rg.enc := List.take_of_length_le (by omega)
    have w1 := wnext g1 (by omega)
    have g7 : (j + 1) * 16 ≤ room := by unfold room; omega
    have ih := L_Behind h1 h2 m (j + 1) (v + 1) (by omega)
    simp [-List.length_flatMap, -List.map_take, e_lease_Behind_r0, e_lease_Behind_r1, e_lease_Behind_r2, e_lease_Behind_r3, e_lease_Behind_r4, e_lease_Behind_r5, e_lease_Behind_r6, e_lease_Behind_r7, e_lease_Behind_r8, e_lease_Behind_r9, e_lease_Behind_r11, g1, a1, hB, a3, a4, a5, w1, g7]
    refine WL.to ih (by simp) (by rw [← a2]; simp [beh]) fun x e σ hh => by simpa [Nat.add_assoc, Nat.add_comm 1 m] using hh
theorem C_Behind {l : List Sp} (hc : Some15 l) {ts : List Int} (ht : ts.length ≤ 1000) (hσ : σ ≠ []) : lim T (.call false i_lease_Behind [spsD l, .lst ts.length (ts.flatMap intE)] σ) =
    some (.val (if takE l ts = 0 then .tup [.lst (l.map (beh ts)).length ((l.map (beh ts)).flatMap Rg.enc), .int .i64 0] else .tup [.nils, .int .i64 (takE l ts)]) σ) := by
  refine call_of T_lease_Behind e_lease_Behind rfl ?_
  have hT := fun σ => C_taking (σ := σ) hc ht
  simp only [spsD] at hT
  by_cases h0 : takE l ts = 0
  rotate_left
  · simp [-List.length_flatMap, -List.map_take, e_lease_Behind_r0, e_lease_Behind_r1, e_lease_Behind_r2, e_lease_Behind_r3, e_lease_Behind_r4, e_lease_Behind_r5, e_lease_Behind_r6, e_lease_Behind_r7, e_lease_Behind_r8, e_lease_Behind_r9, e_lease_Behind_r11, hT, h0]
  rw [h0] at hT
  have h1 : spsOk l = true := by unfold takE at h0; cases h : spsOk l <;> simp [h] at h0 ⊢
  have h2 : tkOk l ts = true := by unfold takE at h0; cases h : tkOk l ts <;> simp [h, h1] at h0 ⊢
  simp [-List.length_flatMap, -List.map_take, e_lease_Behind_r0, e_lease_Behind_r1, e_lease_Behind_r2, e_lease_Behind_r3, e_lease_Behind_r4, e_lease_Behind_r5, e_lease_Behind_r6, e_lease_Behind_r7, e_lease_Behind_r8, e_lease_Behind_r9, e_lease_Behind_r11, hT, h0]
  refine WL.to (L_Behind (σ := σ) h1 h2 l.length 0 0 (by omega)) (by simp) (by simp) ?_
  rintro x e σ' ⟨rfl, g7, rfl⟩
  simp [-List.length_flatMap, -List.map_take, e_lease_Behind_r11, g7]
  rw [frz_tup (by simp) (by omega)]
  simp only [frzL_cons, frzL_nil]
  have := out_at (σ := σ) (n := 15) (f := Rg.enc) (w := 2) (by decide) (fun _ => rfl) (fun x => by simp) (l := l.map (beh ts)) (j := 0) (v := 0 + l.length) (bs := [.cells (0 + l.length) ((l.map (beh ts)).flatMap Rg.enc)]) hσ rfl
  simp at this
  simp [this, h0]
/-! ### Harm -/
theorem which_snoc {p : Sp → Bool} {l : List Sp} {j : Nat} {s : Sp} (h : l[j]? = some s) : whichF p 0 (l.take (j + 1)) = whichF p 0 (l.take j) ++ (if p s then [(j : Int)] else []) := by
  have hj : j < l.length := (List.getElem?_eq_some_iff.1 h).1
  rw [List.take_add_one, h]
  simp only [Option.toList_some]
  rw [which_app]
  have : (l.take j).length = j := by simp; omega
  rw [this, Nat.zero_add]
theorem which_len (p : Sp → Bool) : ∀ (l : List Sp) (i : Nat), (whichF p i l).length ≤ l.length
  | [], _ => by simp [whichF]
  | a :: l, i => by
    have := which_len p l (i + 1)
    simp only [whichF]
    split <;> simp <;> omega
theorem L_Harmed {l : List Sp} (h1 : spsOk l = true) {ts : List Int} (h2 : tkOk l ts = true) : ∀ (m j v w : Nat), j + m = l.length →
    WL T [1, 4, 5, 17, 18, 19] false f_lease_Harmed_l13 [(1, .lst ts.length (ts.flatMap intE)), (4, .sl σ.length 0 v 0 (whichF (harmP ts) 0 (l.take j)).length 1), (5, .sl σ.length 1 w 0 (whichF (harmS ts) 0 (l.take j)).length 1), (17, spsD l), (18, .int .i64 l.length), (19, .int .i64 j)]
      ([.cells v ((whichF (harmP ts) 0 (l.take j)).flatMap intE), .cells w ((whichF (harmS ts) 0 (l.take j)).flatMap intE)] :: σ)
      (fun x e σ' => ∃ v w, x = .exit 0 ∧ get e 4 = .sl σ.length 0 v 0 (whichF (harmP ts) 0 l).length 1 ∧ get e 5 = .sl σ.length 1 w 0 (whichF (harmS ts) 0 l).length 1 ∧ σ' = [.cells v ((whichF (harmP ts) 0 l).flatMap intE), .cells w ((whichF (harmS ts) 0 l).flatMap intE)] :: σ)
  | 0, j, v, w, hi => by
    refine WL_step e_lease_Harmed_l13 ?_
    have g1 : ¬ j < l.length := by omega
    have g2 : l.take j = l := List.take_of_length_le (by omega)
    rw [g2]
    simp [-List.length_flatMap, -List.map_take, e_lease_Harmed_r0, e_lease_Harmed_r1, e_lease_Harmed_r2, e_lease_Harmed_r3, e_lease_Harmed_r4, e_lease_Harmed_r5, e_lease_Harmed_r6, e_lease_Harmed_r7, e_lease_Harmed_r8, e_lease_Harmed_r9, e_lease_Harmed_r10, e_lease_Harmed_r11, e_lease_Harmed_r12, e_lease_Harmed_r14, g1]
  | m + 1, j, v, w, hi => by
    refine WL_step e_lease_Harmed_l13 ?_
    have hs1 := spsOk_iff.1 h1
    have ht1 := tkOk_iff.1 h2
    have g1 : j < l.length := by omega
    obtain ⟨s, hx⟩ : ∃ x, l[j]? = some x := ⟨_, List.getElem?_eq_getElem g1⟩
    have hB := fun σ => C_behind (σ := σ) h1 h2 (List.mem_of_getElem? hx)
    have hk := spOk_iff.1 (hs1.2.2 s (List.mem_of_getElem? hx))
    have a1 := sp_at hx
    have hP := which_snoc (p := harmP ts) hx
    have hS := which_snoc (p := harmS ts) hx
    have lP := which_len (harmP ts) (l.take j) 0
    have lS := which_len (harmS ts) (l.take j) 0
    have ih := fun v w => L_Harmed h1 h2 m (j + 1) v w (by omega)
    have wj := w64 (n := (j : Int)) (by omega)
    have w1 := wnext g1 (by omega)
    have w2 := w64 (n := 1000 * s.least) (by omega)
    simp only [List.length_take] at lP lS
    generalize whichF (harmP ts) 0 (l.take (j + 1)) = P' at *
    generalize whichF (harmS ts) 0 (l.take (j + 1)) = S' at *
    generalize whichF (harmP ts) 0 (l.take j) = P at *
    generalize whichF (harmS ts) 0 (l.take j) = S at *
    have p3 := flat_len (f := intE) (w := 1) (fun _ => rfl) P
    have s3 := flat_len (f := intE) (w := 1) (fun _ => rfl) S
    rw [Nat.mul_one] at p3 s3
    have p5 : (P.flatMap intE).take P.length = P.flatMap intE := List.take_of_length_le (by omega)
    have s5 : (S.flatMap intE).take S.length = S.flatMap intE := List.take_of_length_le (by omega)
    have p7 : (P.length + 1) * 8 ≤ room := by unfold room; omega
    have s7 : (S.length + 1) * 8 ≤ room := by unfold room; omega
    by_cases c1 : behLo s ts < 1000 * s.least
    · have d1 : harmP ts s = true := by simp [harmP, c1]
      by_cases c2 : behHi s ts < 1000 * s.least
      · have d2 : harmS ts s = true := by simp [harmS, c2]
        rw [d1, if_pos rfl] at hP
        rw [d2, if_pos rfl] at hS
        subst hP hS
        simp [-List.length_flatMap, -List.map_take, e_lease_Harmed_r0, e_lease_Harmed_r1, e_lease_Harmed_r2, e_lease_Harmed_r3, e_lease_Harmed_r4, e_lease_Harmed_r5, e_lease_Harmed_r6, e_lease_Harmed_r7, e_lease_Harmed_r8, e_lease_Harmed_r9, e_lease_Harmed_r10, e_lease_Harmed_r11, e_lease_Harmed_r12, e_lease_Harmed_r14, g1, a1, hB, w1, w2, wj, c1, c2, p3, p5, p7, s3, s5, s7]
        refine WL.to (ih (v + 1) (w + 1)) (by simp) (by simp) fun x e σ hh => hh
      · have d2 : harmS ts s = false := by simp [harmS]; omega
        rw [d1, if_pos rfl] at hP
        rw [d2] at hS
        simp only [Bool.false_eq_true, if_false, List.append_nil] at hS
        subst hP hS
        simp [-List.length_flatMap, -List.map_take, e_lease_Harmed_r0, e_lease_Harmed_r1, e_lease_Harmed_r2, e_lease_Harmed_r3, e_lease_Harmed_r4, e_lease_Harmed_r5, e_lease_Harmed_r6, e_lease_Harmed_r7, e_lease_Harmed_r8, e_lease_Harmed_r9, e_lease_Harmed_r10, e_lease_Harmed_r11, e_lease_Harmed_r12, e_lease_Harmed_r14, g1, a1, hB, w1, w2, wj, c1, c2, p3, p5, p7, s3, s5, s7]
        refine WL.to (ih (v + 1) w) (by simp) (by simp) fun x e σ hh => hh
    · have d1 : harmP ts s = false := by simp [harmP]; omega
      by_cases c2 : behHi s ts < 1000 * s.least
      · have d2 : harmS ts s = true := by simp [harmS, c2]
        rw [d1] at hP
        rw [d2, if_pos rfl] at hS
        simp only [Bool.false_eq_true, if_false, List.append_nil] at hP
        subst hP hS
        simp [-List.length_flatMap, -List.map_take, e_lease_Harmed_r0, e_lease_Harmed_r1, e_lease_Harmed_r2, e_lease_Harmed_r3, e_lease_Harmed_r4, e_lease_Harmed_r5, e_lease_Harmed_r6, e_lease_Harmed_r7, e_lease_Harmed_r8, e_lease_Harmed_r9, e_lease_Harmed_r10, e_lease_Harmed_r11, e_lease_Harmed_r12, e_lease_Harmed_r14, g1, a1, hB, w1, w2, wj, c1, c2, p3, p5, p7, s3, s5, s7]
        refine WL.to (ih v (w + 1)) (by simp) (by simp) fun x e σ hh => hh
      · have d2 : harmS ts s = false := by simp [harmS]; omega
        rw [d1] at hP
        rw [d2] at hS
        simp only [Bool.false_eq_true, if_false, List.append_nil] at hP hS
        subst hP hS
        simp [-List.length_flatMap, -List.map_take, e_lease_Harmed_r0, e_lease_Harmed_r1, e_lease_Harmed_r2, e_lease_Harmed_r3, e_lease_Harmed_r4, e_lease_Harmed_r5, e_lease_Harmed_r6, e_lease_Harmed_r7, e_lease_Harmed_r8, e_lease_Harmed_r9, e_lease_Harmed_r10, e_lease_Harmed_r11, e_lease_Harmed_r12, e_lease_Harmed_r14, g1, a1, hB, w1, w2, wj, c1, c2, p3, p5, p7, s3, s5, s7]
        refine WL.to (ih v w) (by simp) (by simp) fun x e σ hh => hh
theorem C_Harmed {l : List Sp} (hc : Some15 l) {ts : List Int} (ht : ts.length ≤ 1000) (hσ : σ ≠ []) : lim T (.call false i_lease_Harmed [spsD l, .lst ts.length (ts.flatMap intE)] σ) =
    some (.val (if takE l ts = 0 then .tup [.lst (whichF (harmP ts) 0 l).length ((whichF (harmP ts) 0 l).flatMap intE), .lst (whichF (harmS ts) 0 l).length ((whichF (harmS ts) 0 l).flatMap intE), .int .i64 0] else .tup [.lst 0 [], .lst 0 [], .int .i64 (takE l ts)]) σ) := by
  refine call_of T_lease_Harmed e_lease_Harmed rfl ?_
  have hT := fun σ => C_taking (σ := σ) hc ht
  simp only [spsD] at hT
  by_cases h0 : takE l ts = 0
  rotate_left
  · simp [-List.length_flatMap, -List.map_take, e_lease_Harmed_r0, e_lease_Harmed_r1, e_lease_Harmed_r2, e_lease_Harmed_r3, e_lease_Harmed_r4, e_lease_Harmed_r5, e_lease_Harmed_r6, e_lease_Harmed_r7, e_lease_Harmed_r8, e_lease_Harmed_r9, e_lease_Harmed_r10, e_lease_Harmed_r11, e_lease_Harmed_r12, e_lease_Harmed_r14, hT, h0]
    rw [frz_tup (by simp) (by omega)]
    simp only [frzL_cons, frzL_nil]
    have o1 := fun (bs : List Blk) (j : Nat) (hj : bs[j]? = some (.cells 0 [])) => out_at (σ := σ) (n := 15) (f := intE) (w := 1) (by decide) (fun _ => rfl) (fun x => by simp) (l := []) (j := j) (v := 0) (bs := bs) hσ (by simpa using hj)
    simp only [List.length_nil, List.flatMap_nil] at o1
    rw [o1 _ _ rfl]
    simp only [List.set_cons_succ, List.set_cons_zero]
    rw [o1 _ _ rfl]
    simp
  rw [h0] at hT
  have h1 : spsOk l = true := by unfold takE at h0; cases h : spsOk l <;> simp [h] at h0 ⊢
  have h2 : tkOk l ts = true := by unfold takE at h0; cases h : tkOk l ts <;> simp [h, h1] at h0 ⊢
  simp [-List.length_flatMap, -List.map_take, e_lease_Harmed_r0, e_lease_Harmed_r1, e_lease_Harmed_r2, e_lease_Harmed_r3, e_lease_Harmed_r4, e_lease_Harmed_r5, e_lease_Harmed_r6, e_lease_Harmed_r7, e_lease_Harmed_r8, e_lease_Harmed_r9, e_lease_Harmed_r10, e_lease_Harmed_r11, e_lease_Harmed_r12, e_lease_Harmed_r14, hT, h0]
  refine WL.to (L_Harmed (σ := σ) h1 h2 l.length 0 0 0 (by omega)) (by simp [whichF]) (by simp [whichF]) ?_
  rintro x e σ' ⟨v, w, rfl, g4, g5, rfl⟩
  simp [-List.length_flatMap, -List.map_take, e_lease_Harmed_r14, g4, g5]
  rw [frz_tup (by simp) (by omega)]
  simp only [frzL_cons, frzL_nil]
  have o1 := fun (q : List Int) (bs : List Blk) (j v : Nat) (hj : bs[j]? = some (.cells v (q.flatMap intE))) => out_at (σ := σ) (n := 15) (f := intE) (w := 1) (by decide) (fun _ => rfl) (fun x => by simp) (l := q) (j := j) (v := v) (bs := bs) hσ hj
  rw [o1 _ _ _ _ rfl]
  simp only [List.set_cons_succ, List.set_cons_zero]
  rw [o1 _ _ _ _ rfl]
  simp [h0]
end Go.Proofs.Ytcccafphhmcifaa
