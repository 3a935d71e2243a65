/-
  The law TrialDrops answers true.
-/
import Derived.Test.YtcjjdaifpboaaaaH13
set_option linter.unusedVariables false
set_option linter.unusedSimpArgs false
namespace Go.Proofs.Ytcjjdaifpboaaaa
open Go Go.Abs Go.Trial
variable {σ : Stack}

theorem L_due {t : Test} {l : List Int} (hl : l.length ≤ 100000) {q e8 b9 e10 ra rb : Int} : ∀ (m i : Nat) (w : Bool), i + m = l.length →
    WL T [1, 2, 3, 7, 8, 9, 10, 11, 12] false f_law04_TrialDrops_l10 [(1, .int .i64 q), (2, .lst l.length (l.flatMap intE)), (3, .cref t.enc), (7, .own 0 [.int .i64 ra, .int .i64 rb]), (8, .int .i64 e8), (9, .int .i64 b9), (10, .int .i64 e10), (11, .bool w), (12, .int .i64 i)] σ
      (fun x e σ' => σ' = σ ∧ x = .exit 0 ∧ get e 1 = .int .i64 q ∧ get e 2 = .lst l.length (l.flatMap intE) ∧ get e 3 = .cref t.enc ∧ get e 7 = .own 0 [.int .i64 ra, .int .i64 rb] ∧ get e 8 = .int .i64 e8 ∧ get e 9 = .int .i64 b9 ∧ get e 10 = .int .i64 e10 ∧ get e 11 = .bool (w || !allB (l.drop i) (fun q => inn q 0 1000)))
  | 0, i, w, hi => by
    refine WL_step e_law04_TrialDrops_l10 ?_
    have h1 : ¬ i < l.length := by omega
    have h2 : l.drop i = [] := List.drop_eq_nil_of_le (by omega)
    simp [-List.length_flatMap, -List.map_take, e_law04_TrialDrops_r0, e_law04_TrialDrops_r1, e_law04_TrialDrops_r2, e_law04_TrialDrops_r3, e_law04_TrialDrops_r4, e_law04_TrialDrops_r5, e_law04_TrialDrops_r6, e_law04_TrialDrops_r7, e_law04_TrialDrops_r8, e_law04_TrialDrops_r9, e_law04_TrialDrops_r11, e_law04_TrialDrops_r12, e_law04_TrialDrops_r13, e_law04_TrialDrops_r14, e_law04_TrialDrops_r15, e_law04_TrialDrops_r16, e_law04_TrialDrops_r17, e_law04_TrialDrops_r18, h1, h2, allB]
  | m + 1, i, w, hi => by
    refine WL_step e_law04_TrialDrops_l10 ?_
    have h1 : i < l.length := by omega
    obtain ⟨x, hx⟩ : ∃ x, l[i]? = some x := ⟨_, List.getElem?_eq_getElem h1⟩
    have h2 := flat_at (f := intE) (w := 1) (fun _ => rfl) hx
    have h4 := wnext h1 (by omega)
    have h5 : l.drop i = x :: l.drop (i + 1) := by
      rw [List.drop_eq_getElem_cons h1]
      rw [List.getElem?_eq_getElem h1] at hx; cases hx; rfl
    have h6 : allB (l.drop i) (fun q => inn q 0 1000) = (inn x 0 1000 && allB (l.drop (i + 1)) (fun q => inn q 0 1000)) := by rw [h5]; rfl
    have ih := L_due (t := t) hl (q := q) (e8 := e8) (b9 := b9) (e10 := e10) (ra := ra) (rb := rb) m (i + 1) (w || !inn x 0 1000) (by omega)
    have h7 : (w || !allB (l.drop i) (fun q => inn q 0 1000)) = ((w || !inn x 0 1000) || !allB (l.drop (i + 1)) (fun q => inn q 0 1000)) := by
      rw [h6]; cases w <;> cases inn x 0 1000 <;> simp
    rw [h7]
    simp only [Nat.mul_one] at h2
    cases w
    · simp [-List.length_flatMap, -List.map_take, e_law04_TrialDrops_r0, e_law04_TrialDrops_r1, e_law04_TrialDrops_r2, e_law04_TrialDrops_r3, e_law04_TrialDrops_r4, e_law04_TrialDrops_r5, e_law04_TrialDrops_r6, e_law04_TrialDrops_r7, e_law04_TrialDrops_r8, e_law04_TrialDrops_r9, e_law04_TrialDrops_r11, e_law04_TrialDrops_r12, e_law04_TrialDrops_r13, e_law04_TrialDrops_r14, e_law04_TrialDrops_r15, e_law04_TrialDrops_r16, e_law04_TrialDrops_r17, e_law04_TrialDrops_r18, h1, h2, h4, C_In]
      exact WL.to ih (by simp) rfl fun x e σ' hh => hh
    · simp [-List.length_flatMap, -List.map_take, e_law04_TrialDrops_r0, e_law04_TrialDrops_r1, e_law04_TrialDrops_r2, e_law04_TrialDrops_r3, e_law04_TrialDrops_r4, e_law04_TrialDrops_r5, e_law04_TrialDrops_r6, e_law04_TrialDrops_r7, e_law04_TrialDrops_r8, e_law04_TrialDrops_r9, e_law04_TrialDrops_r11, e_law04_TrialDrops_r12, e_law04_TrialDrops_r13, e_law04_TrialDrops_r14, e_law04_TrialDrops_r15, e_law04_TrialDrops_r16, e_law04_TrialDrops_r17, e_law04_TrialDrops_r18, h1, h2, h4, C_In]
      exact WL.to ih (by simp) rfl fun x e σ' hh => hh

def drR (t : Test) (q : Int) : Rg := if fault t = 0 ∧ inn q 0 1000 = true ∧ (sets t).isEmpty = false then dOf q (sets t) else ⟨0, 0⟩
theorem drawP_eq {t : Test} {q : Int} : drawP t q = .tup [.agg (drR t q).enc, .int .i64 (askedOf t (!inn q 0 1000) 2)] := by
  unfold drawP drR askedOf
  by_cases h0 : fault t = 0
  · cases h1 : inn q 0 1000
    · simp [h0, z2]
    · cases h2 : (sets t).isEmpty <;> simp [h0, z2]
  · simp [h0, z2]
def wiR (t : Test) (l : List Int) : Int := if fault t = 0 ∧ wideOk l = true ∧ (sets t).isEmpty = false then widL t l l.length 0 0 (-1) else 0
theorem wideD_eq {t : Test} {l : List Int} : wideD t l = .tup [.int .i64 (wiR t l), .int .i64 (askedOf t (!wideOk l) 2)] := by
  unfold wideD wiR askedOf
  by_cases h0 : fault t = 0
  · cases h1 : wideOk l
    · simp [h0]
    · cases h2 : (sets t).isEmpty <;> simp [h0]
  · simp [h0]
set_option maxHeartbeats 2000000 in
theorem law_Drops {t : Test} {q : Int} {l : List Int} : lim T (.call false i_law04_TrialDrops [.agg [.int .i64 t.a.lo, .int .i64 t.a.hi, .int .i64 t.b.lo, .int .i64 t.b.hi, .int .i64 t.c.lo, .int .i64 t.c.hi, .lst t.st.length (t.st.flatMap Step.enc)], .int .i64 q, .lst l.length (l.flatMap intE)] [[]]) = some (.val (.bool true) [[]]) := by
  refine call_of T_law04_TrialDrops e_law04_TrialDrops rfl ?_
  by_cases hl : t.st.length ≤ 20
  rotate_left
  · have h1 : (20 : Int) < t.st.length := by omega
    simp [-List.length_flatMap, -List.map_take, e_law04_TrialDrops_r0, e_law04_TrialDrops_r1, e_law04_TrialDrops_r2, e_law04_TrialDrops_r3, e_law04_TrialDrops_r4, e_law04_TrialDrops_r5, e_law04_TrialDrops_r6, e_law04_TrialDrops_r7, e_law04_TrialDrops_r8, e_law04_TrialDrops_r9, e_law04_TrialDrops_r11, e_law04_TrialDrops_r12, e_law04_TrialDrops_r13, e_law04_TrialDrops_r14, e_law04_TrialDrops_r15, e_law04_TrialDrops_r16, e_law04_TrialDrops_r17, e_law04_TrialDrops_r18, h1, C_wakes]
  have h1 : ¬ (20 : Int) < t.st.length := by omega
  by_cases hl2 : l.length ≤ 20
  rotate_left
  · have h2 : (20 : Int) < l.length := by omega
    simp [-List.length_flatMap, -List.map_take, e_law04_TrialDrops_r0, e_law04_TrialDrops_r1, e_law04_TrialDrops_r2, e_law04_TrialDrops_r3, e_law04_TrialDrops_r4, e_law04_TrialDrops_r5, e_law04_TrialDrops_r6, e_law04_TrialDrops_r7, e_law04_TrialDrops_r8, e_law04_TrialDrops_r9, e_law04_TrialDrops_r11, e_law04_TrialDrops_r12, e_law04_TrialDrops_r13, e_law04_TrialDrops_r14, e_law04_TrialDrops_r15, e_law04_TrialDrops_r16, e_law04_TrialDrops_r17, e_law04_TrialDrops_r18, h1, h2, C_wakes]
  have h2 : ¬ (20 : Int) < l.length := by omega
  have hT := fun σ (hσ : σ ≠ []) => @C_Test σ t (by omega) hσ
  have hD := fun σ (hσ : σ ≠ []) => @C_drawP σ t (by omega) q hσ
  have hW := fun σ => @C_widest σ t (by omega) l (by omega)
  simp only [drawP_eq, Rg.enc] at hD
  simp only [wideD_eq] at hW
  have hz : frz 0 16 (.sl 1 0 1 0 l.length 1) [[.cells 1 (l.flatMap intE)], []] = (.lst l.length (l.flatMap intE), [[.dead], []]) := k_frz (f := intE) (w := 1) (fun _ => rfl) (fun x => by simp) (σ := [[]]) (by simp) rfl
  have h5 : (l.flatMap intE).length = l.length := by simpa using flat_len (f := intE) (w := 1) (fun _ => rfl) l
  have h7 : l.length * 8 ≤ room := by unfold room; omega
  have hi : inn l.length 1 12 = (!decide ((l.length : Int) < 1) && !decide ((12 : Int) < l.length)) := by
    rw [Bool.eq_iff_iff, inn_iff]
    simp
  have hk := fun σ d => @C_asked σ t (by omega) d 2
  have hwi : wideOk l = (inn l.length 1 12 && allB l (fun q => inn q 0 1000)) := rfl
  by_cases a1 : (l.length : Int) < 1 <;> by_cases a2 : (12 : Int) < l.length
  · omega
  all_goals
    simp only [a1, a2, decide_true, decide_false, Bool.not_true, Bool.not_false, Bool.and_true, Bool.and_false] at hi
    have a3 : (1 : Int) ≤ l.length ↔ ¬ ((l.length : Int) < 1) := by omega
    simp [-List.length_flatMap, -List.map_take, e_law04_TrialDrops_r0, e_law04_TrialDrops_r1, e_law04_TrialDrops_r2, e_law04_TrialDrops_r3, e_law04_TrialDrops_r4, e_law04_TrialDrops_r5, e_law04_TrialDrops_r6, e_law04_TrialDrops_r7, e_law04_TrialDrops_r8, e_law04_TrialDrops_r9, e_law04_TrialDrops_r11, e_law04_TrialDrops_r12, e_law04_TrialDrops_r13, e_law04_TrialDrops_r14, e_law04_TrialDrops_r15, e_law04_TrialDrops_r16, e_law04_TrialDrops_r17, e_law04_TrialDrops_r18, h1, h2, hT, hD, hW, hz, h5, h7, a1, a2, a3]
    refine WL.to (L_due (σ := [[.dead], []]) (t := t) (l := l) (by omega) (q := q) (ra := (drR t q).lo) (rb := (drR t q).hi) (e8 := askedOf t (!inn q 0 1000) 2) (b9 := wiR t l) (e10 := askedOf t (!wideOk l) 2) l.length 0 (!inn l.length 1 12) (by omega)) (by simp [hi]) (by simp [hi]) ?_
    rintro x e σ' ⟨rfl, rfl, g1, g2, g3, g7, g8, g9, g10, g11⟩
    rw [List.drop_zero, show (!inn l.length 1 12 || !allB l (fun q => inn q 0 1000)) = !wideOk l from by rw [hwi]; cases inn l.length 1 12 <;> simp] at g11
    by_cases h0 : fault t = 0
    rotate_left
    · simp [-List.length_flatMap, -List.map_take, e_law04_TrialDrops_r11, e_law04_TrialDrops_r12, e_law04_TrialDrops_r13, e_law04_TrialDrops_r14, e_law04_TrialDrops_r15, e_law04_TrialDrops_r16, e_law04_TrialDrops_r17, e_law04_TrialDrops_r18, g1, g2, g3, g7, g8, g9, g10, g11, C_In, hk, askedOf, drR, wiR, h0, C_wakesD]
    have h := fault_tv h0
    have hr : ∀ q, inn q 0 1000 = true → ∀ σ, lim T (.call false i_ref04_Drawdown [.agg [.int .i64 t.a.lo, .int .i64 t.a.hi, .int .i64 t.b.lo, .int .i64 t.b.hi, .int .i64 t.c.lo, .int .i64 t.c.hi, .lst t.st.length (t.st.flatMap Step.enc)], .int .i64 q] σ) = some (.val (drawD t q) σ) := fun q hq σ => C_Drawdown h (inn_iff.1 hq)
    have hR : wideOk l = true → ∀ σ, lim T (.call false i_ref04_Widest [.agg [.int .i64 t.a.lo, .int .i64 t.a.hi, .int .i64 t.b.lo, .int .i64 t.b.hi, .int .i64 t.c.lo, .int .i64 t.c.hi, .lst t.st.length (t.st.flatMap Step.enc)], .lst l.length (l.flatMap intE)] σ) = some (.val (.int .i64 (widL t l l.length 0 0 (-1))) σ) := fun hw σ => C_Widest h (by omega) fun y hy => by
      rw [hwi, Bool.and_eq_true, allB_iff] at hw
      exact inn_iff.1 (hw.2 y hy)
    cases hq : inn q 0 1000
    · cases hw : wideOk l
      · cases hs : (sets t).isEmpty
        · simp [-List.length_flatMap, -List.map_take, e_law04_TrialDrops_r11, e_law04_TrialDrops_r12, e_law04_TrialDrops_r13, e_law04_TrialDrops_r14, e_law04_TrialDrops_r15, e_law04_TrialDrops_r16, e_law04_TrialDrops_r17, e_law04_TrialDrops_r18, g1, g2, g3, g7, g8, g9, g10, g11, C_In, hk, askedOf, drR, wiR, h0, hq, hw, hs, C_wakesD]
        · simp [-List.length_flatMap, -List.map_take, e_law04_TrialDrops_r11, e_law04_TrialDrops_r12, e_law04_TrialDrops_r13, e_law04_TrialDrops_r14, e_law04_TrialDrops_r15, e_law04_TrialDrops_r16, e_law04_TrialDrops_r17, e_law04_TrialDrops_r18, g1, g2, g3, g7, g8, g9, g10, g11, C_In, hk, askedOf, drR, wiR, h0, hq, hw, hs, C_wakesD]
      · have hR := hR hw
        cases hs : (sets t).isEmpty
        · simp [-List.length_flatMap, -List.map_take, e_law04_TrialDrops_r11, e_law04_TrialDrops_r12, e_law04_TrialDrops_r13, e_law04_TrialDrops_r14, e_law04_TrialDrops_r15, e_law04_TrialDrops_r16, e_law04_TrialDrops_r17, e_law04_TrialDrops_r18, g1, g2, g3, g7, g8, g9, g10, g11, C_In, hk, askedOf, drR, wiR, h0, hq, hw, hs, C_wakesD, hR]
        · simp [-List.length_flatMap, -List.map_take, e_law04_TrialDrops_r11, e_law04_TrialDrops_r12, e_law04_TrialDrops_r13, e_law04_TrialDrops_r14, e_law04_TrialDrops_r15, e_law04_TrialDrops_r16, e_law04_TrialDrops_r17, e_law04_TrialDrops_r18, g1, g2, g3, g7, g8, g9, g10, g11, C_In, hk, askedOf, drR, wiR, h0, hq, hw, hs, C_wakesD, hR]
    · have hr := hr q hq
      simp only [drawD] at hr
      cases hw : wideOk l
      · cases hs : (sets t).isEmpty
        · simp [-List.length_flatMap, -List.map_take, e_law04_TrialDrops_r11, e_law04_TrialDrops_r12, e_law04_TrialDrops_r13, e_law04_TrialDrops_r14, e_law04_TrialDrops_r15, e_law04_TrialDrops_r16, e_law04_TrialDrops_r17, e_law04_TrialDrops_r18, g1, g2, g3, g7, g8, g9, g10, g11, C_In, hk, askedOf, drR, wiR, h0, hq, hw, hs, C_wakesD, hr, C_Range]
        · simp [-List.length_flatMap, -List.map_take, e_law04_TrialDrops_r11, e_law04_TrialDrops_r12, e_law04_TrialDrops_r13, e_law04_TrialDrops_r14, e_law04_TrialDrops_r15, e_law04_TrialDrops_r16, e_law04_TrialDrops_r17, e_law04_TrialDrops_r18, g1, g2, g3, g7, g8, g9, g10, g11, C_In, hk, askedOf, drR, wiR, h0, hq, hw, hs, C_wakesD, hr, C_Range]
      · have hR := hR hw
        cases hs : (sets t).isEmpty
        · simp [-List.length_flatMap, -List.map_take, e_law04_TrialDrops_r11, e_law04_TrialDrops_r12, e_law04_TrialDrops_r13, e_law04_TrialDrops_r14, e_law04_TrialDrops_r15, e_law04_TrialDrops_r16, e_law04_TrialDrops_r17, e_law04_TrialDrops_r18, g1, g2, g3, g7, g8, g9, g10, g11, C_In, hk, askedOf, drR, wiR, h0, hq, hw, hs, C_wakesD, hR, hr, C_Range]
        · simp [-List.length_flatMap, -List.map_take, e_law04_TrialDrops_r11, e_law04_TrialDrops_r12, e_law04_TrialDrops_r13, e_law04_TrialDrops_r14, e_law04_TrialDrops_r15, e_law04_TrialDrops_r16, e_law04_TrialDrops_r17, e_law04_TrialDrops_r18, g1, g2, g3, g7, g8, g9, g10, g11, C_In, hk, askedOf, drR, wiR, h0, hq, hw, hs, C_wakesD, hR, hr, C_Range]
theorem go_TrialDrops (x0 x1 x2 : D) (t0 : tyTest.hasV x0) (t1 : (Ty.int .i64).hasV x1) (t2 : (Ty.slice 1 (.int .i64)).hasV x2) :
    ∃ σ', lim T (.call false i_law04_TrialDrops [x0, x1, x2] [[]]) = some (.val (.bool true) σ') := by
  obtain ⟨t, rfl⟩ := test_of t0
  obtain ⟨q, rfl, _⟩ := i64_of t1
  obtain ⟨l, rfl, _⟩ := rows_of (f := intE) (Q := fun _ => True) (fun ds h => by
    simp only [Ty.has] at h
    obtain ⟨n, rfl, _⟩ := h
    exact ⟨n, rfl, trivial⟩) t2
  exact ⟨_, law_Drops⟩
end Go.Proofs.Ytcjjdaifpboaaaa
