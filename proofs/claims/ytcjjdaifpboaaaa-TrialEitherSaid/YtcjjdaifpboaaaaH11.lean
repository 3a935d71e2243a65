/-
  The list of conflicts: of the reference, of the program. The blamed step.
-/
import Derived.Test.YtcjjdaifpboaaaaH10
set_option linter.unusedVariables false
set_option linter.unusedSimpArgs false
namespace Go.Proofs.Ytcjjdaifpboaaaa
open Go Go.Abs Go.Trial
variable {σ : Stack}

def prAt (t : Test) (p : Int × Int) : Int × Int := prOf (apart (roomsOf t p.1 p.2))
def prs (t : Test) : List (Int × Int) := (pairs t).map (prAt t)

theorem L_co2 {t : Test} (h : Tv t) {b : Int} (hb : t.b.lo ≤ b ∧ b ≤ t.b.hi) : ∀ (m : Nat) (c : Int) (acc : List (Int × Int)), t.c.lo ≤ c → (cRow t b c).length = m → acc.length + m ≤ 1600 →
    WL T [1, 3, 4, 5] false f_ref04_Conflicts_l8 [(1, .cref t.enc), (3, .sl σ.length 0 acc.length 0 acc.length 2), (4, .int .i64 b), (5, .int .i64 c)] ([.cells acc.length (acc.flatMap prE)] :: σ)
      (fun x e σ' => ∃ r, r = acc ++ (cRow t b c).map (prAt t) ∧ σ' = [.cells r.length (r.flatMap prE)] :: σ ∧ x = .exit 2 ∧ get e 1 = .cref t.enc ∧ get e 3 = .sl σ.length 0 r.length 0 r.length 2 ∧ get e 4 = .int .i64 b)
  | 0, c, acc, hc0, hm, hlen => by
    refine WL_step e_ref04_Conflicts_l8 ?_
    by_cases hc : c ≤ t.c.hi
    · rw [cRow_cons hc] at hm; cases hm
    · simp [-List.length_flatMap, -List.map_take, e_ref04_Conflicts_r0, e_ref04_Conflicts_r1, e_ref04_Conflicts_r2, e_ref04_Conflicts_r3, e_ref04_Conflicts_r4, e_ref04_Conflicts_r5, e_ref04_Conflicts_r6, e_ref04_Conflicts_r7, e_ref04_Conflicts_r9, e_ref04_Conflicts_r11, hc, cRow_nil (show t.c.hi < c by omega)]
  | m + 1, c, acc, hc0, hm, hlen => by
    refine WL_step e_ref04_Conflicts_l8 ?_
    by_cases hc : c ≤ t.c.hi
    rotate_left
    · rw [cRow_nil (by omega)] at hm; cases hm
    rw [cRow_cons hc] at hm
    simp only [List.length_cons, Nat.add_right_cancel_iff] at hm
    have hC := h.c
    have w0 := w64 (n := c + 1) (by omega)
    have hB : BC t b c := ⟨hb, by omega, hc⟩
    have hF := fun σ => @C_First σ t h b c hB
    have ih := L_co2 h hb m (c + 1) (acc ++ [prAt t (b, c)]) (by omega) hm (by simp; omega)
    rw [cRow_cons hc, List.map_cons]
    have h5 := flat_len (f := prE) (w := 2) (fun _ => rfl) acc
    have h6 := k_self (f := prE) (w := 2) (fun _ => rfl) acc
    have h7 : (acc.length + 1) * 16 ≤ room := by unfold room; omega
    have e0 : prOf (apart (roomsOf t b c)) = prAt t (b, c) := rfl
    rw [e0] at hF
    simp only [prE] at hF
    generalize prAt t (b, c) = pp at *
    simp [-List.length_flatMap, -List.map_take, e_ref04_Conflicts_r0, e_ref04_Conflicts_r1, e_ref04_Conflicts_r2, e_ref04_Conflicts_r3, e_ref04_Conflicts_r4, e_ref04_Conflicts_r5, e_ref04_Conflicts_r6, e_ref04_Conflicts_r7, e_ref04_Conflicts_r9, e_ref04_Conflicts_r11, hc, hF, h5, h6, h7, w0]
    refine WL.to ih (by simp) (by simp) ?_
    intro x e σ' hh
    simpa using hh
theorem L_co1 {t : Test} (h : Tv t) : ∀ (m : Nat) (b : Int) (acc : List (Int × Int)), t.b.lo ≤ b → (upto b t.b.hi).length = m → acc.length + m * 40 ≤ 1600 →
    WL T [1, 3, 4] false f_ref04_Conflicts_l10 [(1, .cref t.enc), (3, .sl σ.length 0 acc.length 0 acc.length 2), (4, .int .i64 b)] ([.cells acc.length (acc.flatMap prE)] :: σ)
      (fun x e σ' => ∃ r, r = acc ++ (bRows t b).map (prAt t) ∧ σ' = [.cells r.length (r.flatMap prE)] :: σ ∧ x = .exit 0 ∧ get e 3 = .sl σ.length 0 r.length 0 r.length 2)
  | 0, b, acc, hb0, hm, hlen => by
    refine WL_step e_ref04_Conflicts_l10 ?_
    by_cases hc : b ≤ t.b.hi
    · rw [upto_cons hc] at hm; cases hm
    · simp [-List.length_flatMap, -List.map_take, e_ref04_Conflicts_r0, e_ref04_Conflicts_r1, e_ref04_Conflicts_r2, e_ref04_Conflicts_r3, e_ref04_Conflicts_r4, e_ref04_Conflicts_r5, e_ref04_Conflicts_r6, e_ref04_Conflicts_r7, e_ref04_Conflicts_r9, e_ref04_Conflicts_r11, hc, bRows_nil (show t.b.hi < b by omega)]
  | m + 1, b, acc, hb0, hm, hlen => by
    refine WL_step e_ref04_Conflicts_l10 ?_
    by_cases hc : b ≤ t.b.hi
    rotate_left
    · rw [upto_nil (by omega)] at hm; cases hm
    rw [upto_cons hc] at hm
    simp only [List.length_cons, Nat.add_right_cancel_iff] at hm
    have hB := h.b
    have hw := h.cw
    have hcl := @cRow_len t b t.c.lo
    have w0 := w64 (n := b + 1) (by omega)
    simp [-List.length_flatMap, -List.map_take, e_ref04_Conflicts_r0, e_ref04_Conflicts_r1, e_ref04_Conflicts_r2, e_ref04_Conflicts_r3, e_ref04_Conflicts_r4, e_ref04_Conflicts_r5, e_ref04_Conflicts_r6, e_ref04_Conflicts_r7, e_ref04_Conflicts_r9, e_ref04_Conflicts_r11, hc]
    refine WL.to (L_co2 (σ := σ) h ⟨hb0, hc⟩ _ t.c.lo acc (by omega) rfl (by omega)) (by simp) (by simp) ?_
    rintro x' e σ' ⟨r, hr, rfl, rfl, g1, g3, g4⟩
    have hrl : r.length = acc.length + (cRow t b t.c.lo).length := by rw [hr]; simp
    have ih := L_co1 h m (b + 1) r (by omega) hm (by omega)
    rw [bRows_cons hc, List.map_append, ← List.append_assoc, ← hr]
    simp [-List.length_flatMap, -List.map_take, e_ref04_Conflicts_r9, g1, g3, g4, w0]
    refine WL.to ih (by simp) (by simp) ?_
    intro x e σ' hh
    simpa using hh
theorem C_ConflictsR {t : Test} (h : Tv t) (hσ : σ ≠ []) : lim T (.call false i_ref04_Conflicts [.agg [.int .i64 t.a.lo, .int .i64 t.a.hi, .int .i64 t.b.lo, .int .i64 t.b.hi, .int .i64 t.c.lo, .int .i64 t.c.hi, .lst t.st.length (t.st.flatMap Step.enc)]] σ) = some (.val (.lst (prs t).length ((prs t).flatMap prE)) σ) := by
  refine call_of T_ref04_Conflicts e_ref04_Conflicts rfl ?_
  have hw := h.bw
  have hl := @upto_len t.b.lo t.b.hi
  simp [-List.length_flatMap, -List.map_take, e_ref04_Conflicts_r0, e_ref04_Conflicts_r1, e_ref04_Conflicts_r2, e_ref04_Conflicts_r3, e_ref04_Conflicts_r4, e_ref04_Conflicts_r5, e_ref04_Conflicts_r6, e_ref04_Conflicts_r7, e_ref04_Conflicts_r9, e_ref04_Conflicts_r11]
  refine WL.to (L_co1 (σ := σ) h _ t.b.lo [] (by omega) rfl (by simp; omega)) (by simp) (by simp) ?_
  rintro x e σ' ⟨r, hr, rfl, rfl, g3⟩
  have hr' : r = prs t := by rw [hr, bRows_all]; rfl
  subst hr'
  simp [-List.length_flatMap, -List.map_take, e_ref04_Conflicts_r0, e_ref04_Conflicts_r1, e_ref04_Conflicts_r2, e_ref04_Conflicts_r3, e_ref04_Conflicts_r4, e_ref04_Conflicts_r5, e_ref04_Conflicts_r6, e_ref04_Conflicts_r7, e_ref04_Conflicts_r9, e_ref04_Conflicts_r11, g3]
  rw [k_out (f := prE) (fun _ => rfl) (fun x => by simp) hσ rfl]
  simp

/-! ### The program's -/

def lpK (L : Nat) : LoopSt := { state := 0, pend := none, env := [(2, .ref L 0 0 0), (3, .ref L 1 0 0), (5, .ref L 3 0 0)], params := [17, 18], asg := f_trial_Conflicts_a11, body := f_trial_Conflicts_b11 }
def stK (acc : List (Int × Int)) (σ : Stack) : Stack := [.cells 0 [.nils], .cells 0 [.int .i64 0], .cells acc.length (acc.flatMap prE), .cells 0 [.sl σ.length 2 acc.length 0 acc.length 2], .loop (lpK σ.length)] :: σ
theorem R_conf {t : Test} (h : Tv t) {p : Int × Int} {q : Nat × Nat} (hq : apart (roomsOf t p.1 p.2) = some q) {acc : List (Int × Int)} (hlen : acc.length ≤ 1600) :
    lim T (.round σ.length 4 (rmA t p) (rmP p ++ stK acc σ)) = some (.val (.bool true) (rmP p ++ stK (acc ++ [prAt t p]) σ)) := by
  have hn := h.n
  have hA := fun σ => @C_apart σ (roomsOf t p.1 p.2) (by rw [rooms_len]; omega)
  rw [hq] at hA
  have e0 : prAt t p = ((q.1 : Int) - 1, (q.2 : Int) - 1) := by simp [prAt, hq, prOf]
  have h5 := flat_len (f := prE) (w := 2) (fun _ => rfl) acc
  have h6 := k_self (f := prE) (w := 2) (fun _ => rfl) acc
  have h7 : (acc.length + 1) * 16 ≤ room := by unfold room; omega
  simp only [apartD] at hA
  refine round_of (lp := lpK σ.length) (by simp [rmP, stK]) rfl ?_
  rw [show (lpK σ.length).asg = f_trial_Conflicts_a11 from rfl, e_trial_Conflicts_a11, show (lpK σ.length).body = f_trial_Conflicts_b11 from rfl]
  simp only [rmA]
  generalize (roomsOf t p.1 p.2).flatMap Rg.enc = F at *
  simp [-List.length_flatMap, -List.map_take, e_trial_Conflicts_r0, e_trial_Conflicts_r1, e_trial_Conflicts_r2, e_trial_Conflicts_r3, e_trial_Conflicts_r4, e_trial_Conflicts_r5, e_trial_Conflicts_r6, e_trial_Conflicts_r7, e_trial_Conflicts_r8, e_trial_Conflicts_r9, e_trial_Conflicts_r10, e_trial_Conflicts_r12, WC_eq e_trial_Conflicts_b11, lpK, stK, rmP, cvA, midR, hA, e0, h5, h6, h7]

theorem R_conf0 {t : Test} (h : Tv t) {p : Int × Int} (hq : apart (roomsOf t p.1 p.2) = none) {acc : List (Int × Int)} :
    lim T (.round σ.length 4 (rmA t p) (rmP p ++ stK acc σ)) = some (.val (.bool false) (rmP p ++ ([.cells 0 [.nils], .cells 0 [.int .i64 7], .cells acc.length (acc.flatMap prE), .cells 0 [.sl σ.length 2 acc.length 0 acc.length 2], .loop { lpK σ.length with state := 2, pend := some .ret }] :: σ))) := by
  have hn := h.n
  have hA := fun σ => @C_apart σ (roomsOf t p.1 p.2) (by rw [rooms_len]; omega)
  rw [hq] at hA
  simp only [apartD, z2] at hA
  refine round_of (lp := lpK σ.length) (by simp [rmP, stK]) rfl ?_
  rw [show (lpK σ.length).asg = f_trial_Conflicts_a11 from rfl, e_trial_Conflicts_a11, show (lpK σ.length).body = f_trial_Conflicts_b11 from rfl]
  simp only [rmA]
  generalize (roomsOf t p.1 p.2).flatMap Rg.enc = F at *
  simp [-List.length_flatMap, -List.map_take, e_trial_Conflicts_r0, e_trial_Conflicts_r1, e_trial_Conflicts_r2, e_trial_Conflicts_r3, e_trial_Conflicts_r4, e_trial_Conflicts_r5, e_trial_Conflicts_r6, e_trial_Conflicts_r7, e_trial_Conflicts_r8, e_trial_Conflicts_r9, e_trial_Conflicts_r10, e_trial_Conflicts_r12, WC_eq e_trial_Conflicts_b11, lpK, stK, rmP, cvA, midR, hA]
/-- Have all their conflicts? -/
def allC (t : Test) (ps : List (Int × Int)) : Bool := ps.all fun p => (apart (roomsOf t p.1 p.2)).isSome
theorem Rs_conf {t : Test} (h : Tv t) : ∀ (ps acc : List (Int × Int)), acc.length + ps.length ≤ 1600 →
    ∃ r : List (Int × Int), (allC t ps = true → r = acc ++ ps.map (prAt t)) ∧ Rnds T (σ.length + 1) σ.length 4 (rmA t) rmP ps (stK acc σ) (allC t ps)
      (if allC t ps then stK r σ else [.cells 0 [.nils], .cells 0 [.int .i64 7], .cells r.length (r.flatMap prE), .cells 0 [.sl σ.length 2 r.length 0 r.length 2], .loop { lpK σ.length with state := 2, pend := some .ret }] :: σ)
  | [], acc, _ => ⟨acc, fun _ => by simp, by simpa [allC] using Rnds.nil _ (by simp [stK])⟩
  | p :: ps, acc, hlen => by
    simp only [List.length_cons] at hlen
    cases hq : apart (roomsOf t p.1 p.2) with
    | none =>
      have e : allC t (p :: ps) = false := by simp [allC, hq]
      rw [e]
      refine ⟨acc, (fun hh => (by cases hh)), ?_⟩
      simp only [Bool.false_eq_true, if_false]
      exact .stop _ _ _ _ (by simp [stK]) (by simp) (R_conf0 h hq)
    | some q =>
      have e : allC t (p :: ps) = allC t ps := by simp [allC, hq]
      obtain ⟨r, hr, hR⟩ := Rs_conf h ps (acc ++ [prAt t p]) (by simp; omega)
      rw [e]
      exact ⟨r, fun ha => by rw [hr ha]; simp, .go _ _ _ _ _ _ (by simp [stK]) (R_conf h hq (by omega)) hR⟩
def confD (t : Test) : D := if fault t = 0 then (if allC t (pairs t) then .tup [.lst (prs t).length ((prs t).flatMap prE), .int .i64 0] else .tup [.nils, .int .i64 7]) else .tup [.nils, .int .i64 (fault t)]
theorem C_conflicts {t : Test} (hl : t.st.length ≤ 100000) (hσ : σ ≠ []) : lim T (.call false i_trial_Conflicts [.agg [.int .i64 t.a.lo, .int .i64 t.a.hi, .int .i64 t.b.lo, .int .i64 t.b.hi, .int .i64 t.c.lo, .int .i64 t.c.hi, .lst t.st.length (t.st.flatMap Step.enc)]] σ) = some (.val (confD t) σ) := by
  refine call_of T_trial_Conflicts e_trial_Conflicts rfl ?_
  have hf := fun σ => @C_check σ t hl
  by_cases h0 : fault t = 0
  rotate_left
  · simp [-List.length_flatMap, -List.map_take, e_trial_Conflicts_r0, e_trial_Conflicts_r1, e_trial_Conflicts_r2, e_trial_Conflicts_r3, e_trial_Conflicts_r4, e_trial_Conflicts_r5, e_trial_Conflicts_r6, e_trial_Conflicts_r7, e_trial_Conflicts_r8, e_trial_Conflicts_r9, e_trial_Conflicts_r10, e_trial_Conflicts_r12, hf, h0, confD]
  have h := fault_tv h0
  obtain ⟨r, hr, hR⟩ := Rs_conf (σ := σ) h (pairs t) [] (by simpa using pairs_len h)
  have hc := C_rooms1 h (l := σ.length) (i := 4) (S := stK [] σ) (by simp [stK]) (by simpa [stK] using hR)
  simp [-List.length_flatMap, -List.map_take, e_trial_Conflicts_r0, e_trial_Conflicts_r1, e_trial_Conflicts_r2, e_trial_Conflicts_r3, e_trial_Conflicts_r4, e_trial_Conflicts_r5, e_trial_Conflicts_r6, e_trial_Conflicts_r7, e_trial_Conflicts_r8, e_trial_Conflicts_r9, e_trial_Conflicts_r10, e_trial_Conflicts_r12, hf, h0, C_rooms]
  cases ha : allC t (pairs t)
  · rw [ha] at hc
    simp only [Bool.false_eq_true, if_false] at hc
    refine WC_rngf (d := .tup []) (σ2 := [.cells 0 [.nils], .cells 0 [.int .i64 7], .cells r.length (r.flatMap prE), .cells 0 [.sl σ.length 2 r.length 0 r.length 2], .loop { lpK σ.length with state := 2, pend := some .ret }] :: σ) (lp := { lpK σ.length with state := 2, pend := some .ret }) (by simp; exact ⟨rfl, rfl, rfl⟩) ?_ (by simp) (by simp [lpK]) ?_
    · simpa [lpK, stK] using hc
    · simp [-List.length_flatMap, -List.map_take, lpK, confD, h0, ha, e_trial_Conflicts_r0, e_trial_Conflicts_r1, e_trial_Conflicts_r2, e_trial_Conflicts_r3, e_trial_Conflicts_r4, e_trial_Conflicts_r5, e_trial_Conflicts_r6, e_trial_Conflicts_r7, e_trial_Conflicts_r8, e_trial_Conflicts_r9, e_trial_Conflicts_r10, e_trial_Conflicts_r12]
  · rw [ha] at hc
    simp only [if_true] at hc
    have hr' : r = prs t := by rw [hr ha]; rfl
    subst hr'
    refine WC_rngf (d := .tup []) (σ2 := stK (prs t) σ) (lp := lpK σ.length) (by simp; exact ⟨rfl, rfl, rfl⟩) ?_ (by simp [stK]) (by simp [lpK]) ?_
    · simpa [lpK, stK] using hc
    · simp [-List.length_flatMap, -List.map_take, lpK, stK, confD, h0, ha, e_trial_Conflicts_r0, e_trial_Conflicts_r1, e_trial_Conflicts_r2, e_trial_Conflicts_r3, e_trial_Conflicts_r4, e_trial_Conflicts_r5, e_trial_Conflicts_r6, e_trial_Conflicts_r7, e_trial_Conflicts_r8, e_trial_Conflicts_r9, e_trial_Conflicts_r10, e_trial_Conflicts_r12]
      rw [frz_tup (by simp) (by omega)]
      have h3 : ¬ σ.length ≤ σ.length - 1 := by have := List.length_pos_iff.2 hσ; omega
      have h6 := k_self (f := prE) (w := 2) (fun _ => rfl) (prs t)
      have h5 : D.cleanL ((prs t).flatMap prE) = true := k_clean (fun x => by simp) _
      simp only [frzL_cons, frzL_nil]
      rw [frz_sl h3 (cs := (prs t).flatMap prE) (by simp) (by omega)]
      simp [h6, h5]
end Go.Proofs.Ytcjjdaifpboaaaa
