/-
  The law TremorReasons answers true.
-/
import Derived.Test.YticpenoicajakaaKT
set_option linter.unusedVariables false
set_option linter.unusedSimpArgs false
namespace Go.Proofs.Yticpenoicajakaa
open Go Go.Abs Go.Trem
variable {σ : Stack}

theorem prvL_len {n : Net} {l : List Pick} : ∀ (ps : List Pt) (qs : List Pair), prvL n l ps qs = true → qs.length = ps.length
  | [], [], _ => rfl
  | [], q :: qs, h => by simp [prvL] at h
  | p :: ps, [], h => by simp [prvL] at h
  | p :: ps, q :: qs, h => by
    simp only [prvL, Bool.and_eq_true] at h
    simp [prvL_len ps qs h.2]

theorem prvL_and {n : Net} {l : List Pick} {ps : List Pt} {qs : List Pair} : (decide (qs.length = ps.length) && prvL n l ps qs) = prvL n l ps qs := by
  cases h : prvL n l ps qs
  · simp
  · simp [prvL_len ps qs h]

theorem flat_pre {α : Type} {f : α → List D} {w : Nat} (hw : ∀ x, (f x).length = w) {l : List α} {i : Nat} (hi : i ≤ l.length) : (l.flatMap f).take (i * w) = (l.take i).flatMap f := by
  have h1 := flat_len hw (l.take i)
  have h2 : l.flatMap f = (l.take i).flatMap f ++ (l.drop i).flatMap f := by rw [← List.flatMap_append, List.take_append_drop]
  have h3 : (l.take i).length = i := by simp; omega
  rw [h3] at h1
  rw [h2, List.take_append_of_le_length (by omega), List.take_of_length_le (by omega)]

theorem law_Reasons {n : Net} {l : List Pick} {qs : List Pair} {own : Bool} {at_ first thn : Int} (hp : ∀ p ∈ l, 0 ≤ p.ph ∧ p.ph ≤ 255) (ha : in64 at_) (hσ : σ ≠ []) :
    lim T (.call false i_law09_TremorReasons [.agg [.lst n.st.length (n.st.flatMap Stn.enc), .int .i64 n.s0.lo, .int .i64 n.s0.hi, .int .i64 n.s1.lo, .int .i64 n.s1.hi, .int .i64 n.low.x, .int .i64 n.low.y, .int .i64 n.low.z, .int .i64 n.high.x, .int .i64 n.high.y, .int .i64 n.high.z, .int .i64 n.step], .lst l.length (l.flatMap Pick.enc), .lst qs.length (qs.flatMap Pair.enc), .bool own, .int .i64 at_, .int .i64 first, .int .i64 thn] σ) = some (.val (.bool true) σ) := by
  refine call_of T_law09_TremorReasons e_law09_TremorReasons rfl ?_
  have hfew := fun σ => @C_few σ n l
  cases hf : (decide (n.st.length ≤ 14) && (decide (l.length ≤ 20) || (decide (60 < l.length) && decide (l.length ≤ 62))))
  · simp only [hf] at hfew
    simp [-List.length_flatMap, -List.map_take, e_law09_TremorReasons_r0, e_law09_TremorReasons_r1, e_law09_TremorReasons_r2, e_law09_TremorReasons_r3, e_law09_TremorReasons_r4, e_law09_TremorReasons_r5, e_law09_TremorReasons_r6, e_law09_TremorReasons_r7, e_law09_TremorReasons_r8, e_law09_TremorReasons_r9, e_law09_TremorReasons_r10, e_law09_TremorReasons_r11, e_law09_TremorReasons_r12, e_law09_TremorReasons_r13, e_law09_TremorReasons_r14, e_law09_TremorReasons_r15, e_law09_TremorReasons_r16, e_law09_TremorReasons_r17, e_law09_TremorReasons_r18, e_law09_TremorReasons_r20, e_law09_TremorReasons_r21, e_law09_TremorReasons_r22, e_law09_TremorReasons_r23, e_law09_TremorReasons_r24, e_law09_TremorReasons_r25, e_law09_TremorReasons_r27, e_law09_TremorReasons_r28, e_law09_TremorReasons_r29, e_law09_TremorReasons_r30, e_law09_TremorReasons_r31, e_law09_TremorReasons_r32, e_law09_TremorReasons_r33, e_law09_TremorReasons_r35, hfew, C_awake]
  simp only [hf] at hfew
  simp only [Bool.and_eq_true, Bool.or_eq_true, decide_eq_true_eq] at hf
  by_cases g2 : 100 < qs.length
  · have g2' : (100 : Int) < qs.length := by omega
    simp [-List.length_flatMap, -List.map_take, e_law09_TremorReasons_r0, e_law09_TremorReasons_r1, e_law09_TremorReasons_r2, e_law09_TremorReasons_r3, e_law09_TremorReasons_r4, e_law09_TremorReasons_r5, e_law09_TremorReasons_r6, e_law09_TremorReasons_r7, e_law09_TremorReasons_r8, e_law09_TremorReasons_r9, e_law09_TremorReasons_r10, e_law09_TremorReasons_r11, e_law09_TremorReasons_r12, e_law09_TremorReasons_r13, e_law09_TremorReasons_r14, e_law09_TremorReasons_r15, e_law09_TremorReasons_r16, e_law09_TremorReasons_r17, e_law09_TremorReasons_r18, e_law09_TremorReasons_r20, e_law09_TremorReasons_r21, e_law09_TremorReasons_r22, e_law09_TremorReasons_r23, e_law09_TremorReasons_r24, e_law09_TremorReasons_r25, e_law09_TremorReasons_r27, e_law09_TremorReasons_r28, e_law09_TremorReasons_r29, e_law09_TremorReasons_r30, e_law09_TremorReasons_r31, e_law09_TremorReasons_r32, e_law09_TremorReasons_r33, e_law09_TremorReasons_r35, hfew, g2', C_awake]
  have g2' : ¬ (100 : Int) < qs.length := by omega
  have hl0 : l.length ≤ 9223372036854775807 := by omega
  have hn0 : n.st.length ≤ 9223372036854775807 := by omega
  have h1 := fun σ (hσ : σ ≠ []) => @C_Net σ n (by omega) hσ
  have h2 := fun σ (hσ : σ ≠ []) => @C_PicksL σ l (by omega) hσ
  have h3 := fun σ => @C_Blame σ n l hl0 hn0 hp
  have h4 := fun σ => @C_wrong σ n l hl0 hn0 fun p hp' => (hp p hp').1
  have h5 := fun σ (hσ : σ ≠ []) => @C_Reasons σ n l hl0 hn0 hp hσ
  have h6 := fun σ (hσ : σ ≠ []) => @C_PairsL σ qs (by omega) hσ
  have h7 := fun σ => @C_ProveNone σ n l qs hl0 hn0 hp (by omega)
  by_cases hw : wrong n l = 0
  rotate_left
  · have hw' : (wrong n l != 0) = true := by simpa using hw
    simp only [hw, if_false, decide_false, Bool.false_and] at h3 h5 h7
    simp [-List.length_flatMap, -List.map_take, e_law09_TremorReasons_r0, e_law09_TremorReasons_r1, e_law09_TremorReasons_r2, e_law09_TremorReasons_r3, e_law09_TremorReasons_r4, e_law09_TremorReasons_r5, e_law09_TremorReasons_r6, e_law09_TremorReasons_r7, e_law09_TremorReasons_r8, e_law09_TremorReasons_r9, e_law09_TremorReasons_r10, e_law09_TremorReasons_r11, e_law09_TremorReasons_r12, e_law09_TremorReasons_r13, e_law09_TremorReasons_r14, e_law09_TremorReasons_r15, e_law09_TremorReasons_r16, e_law09_TremorReasons_r17, e_law09_TremorReasons_r18, e_law09_TremorReasons_r20, e_law09_TremorReasons_r21, e_law09_TremorReasons_r22, e_law09_TremorReasons_r23, e_law09_TremorReasons_r24, e_law09_TremorReasons_r25, e_law09_TremorReasons_r27, e_law09_TremorReasons_r28, e_law09_TremorReasons_r29, e_law09_TremorReasons_r30, e_law09_TremorReasons_r31, e_law09_TremorReasons_r32, e_law09_TremorReasons_r33, e_law09_TremorReasons_r35, hfew, g2', h1, h2, h3, h4, h5, h6, h7, hw', C_awake]
  simp only [hw, if_true, decide_true, Bool.true_and] at h3 h5 h7
  obtain ⟨hd, hl1⟩ := wrong_hd hw hp
  have hb := net_bx hd.ok
  have hlen := hb.len
  have hps : ∀ p ∈ lattice n, p.ok = true := fun p hp => lattice_ok hb hp
  have h8 := fun σ (hσ : σ ≠ []) => @C_LocateR σ n l hd hl1 hσ
  have h9 := fun σ (hσ : σ ≠ []) => @C_Lattice σ n hd.ok hσ
  cases hq : noneB n l
  · have h0 : ¬ (located n l).length = 0 := by rw [located_none, hq]; simp
    have h0' : 0 < (located n l).length := by omega
    simp only [hq, blame_ne hl1 hq, Bool.false_eq_true, if_true, if_false] at h3 h5
    have ht := L_prv (σ := [] :: σ) hd (qs := qs) hps (by omega) (lattice n).length 0 (decide (qs.length = (lattice n).length)) (by omega) (by simp)
    have he : ((qs.length : Int) == (lattice n).length) = decide (qs.length = (lattice n).length) := by rw [Bool.eq_iff_iff]; simp; omega
    simp [-List.length_flatMap, -List.map_take, e_law09_TremorReasons_r0, e_law09_TremorReasons_r1, e_law09_TremorReasons_r2, e_law09_TremorReasons_r3, e_law09_TremorReasons_r4, e_law09_TremorReasons_r5, e_law09_TremorReasons_r6, e_law09_TremorReasons_r7, e_law09_TremorReasons_r8, e_law09_TremorReasons_r9, e_law09_TremorReasons_r10, e_law09_TremorReasons_r11, e_law09_TremorReasons_r12, e_law09_TremorReasons_r13, e_law09_TremorReasons_r14, e_law09_TremorReasons_r15, e_law09_TremorReasons_r16, e_law09_TremorReasons_r17, e_law09_TremorReasons_r18, e_law09_TremorReasons_r20, e_law09_TremorReasons_r21, e_law09_TremorReasons_r22, e_law09_TremorReasons_r23, e_law09_TremorReasons_r24, e_law09_TremorReasons_r25, e_law09_TremorReasons_r27, e_law09_TremorReasons_r28, e_law09_TremorReasons_r29, e_law09_TremorReasons_r30, e_law09_TremorReasons_r31, e_law09_TremorReasons_r32, e_law09_TremorReasons_r33, e_law09_TremorReasons_r35, hfew, g2', h1, h2, h3, h4, h5, h8, h9, hw, h0', he]
    refine WL.to ht (by simp) rfl ?_
    rintro x e σ' ⟨rfl, rfl, a1, a2, a3, a4⟩
    simp only [List.drop_zero, prvL_and] at a1
    simp [-List.length_flatMap, -List.map_take, e_law09_TremorReasons_r0, e_law09_TremorReasons_r1, e_law09_TremorReasons_r2, e_law09_TremorReasons_r3, e_law09_TremorReasons_r4, e_law09_TremorReasons_r5, e_law09_TremorReasons_r6, e_law09_TremorReasons_r7, e_law09_TremorReasons_r8, e_law09_TremorReasons_r9, e_law09_TremorReasons_r10, e_law09_TremorReasons_r11, e_law09_TremorReasons_r12, e_law09_TremorReasons_r13, e_law09_TremorReasons_r14, e_law09_TremorReasons_r15, e_law09_TremorReasons_r16, e_law09_TremorReasons_r17, e_law09_TremorReasons_r18, e_law09_TremorReasons_r20, e_law09_TremorReasons_r21, e_law09_TremorReasons_r22, e_law09_TremorReasons_r23, e_law09_TremorReasons_r24, e_law09_TremorReasons_r25, e_law09_TremorReasons_r27, e_law09_TremorReasons_r28, e_law09_TremorReasons_r29, e_law09_TremorReasons_r30, e_law09_TremorReasons_r31, e_law09_TremorReasons_r32, e_law09_TremorReasons_r33, e_law09_TremorReasons_r35, a1, a2, a3, a4, h1, h2, h6, h7, C_awake]
  · have h0 : (located n l).length = 0 := located_none.2 hq
    obtain ⟨k, k1, k2, k3, k4⟩ := blame_at hl1 hq
    have hk : ¬ blame n l = -1 := by omega
    simp only [hq, hk, if_true, if_false] at h3 h5
    rw [k1] at h3
    have i1 : inn (k : Int) 0 (l.length - 1) = true := by rw [inn_iff]; omega
    have i2 := w64 (n := (l.length : Int) - 1) (by omega)
    have i3 := w64 (n := (k : Int) + 1) (by omega)
    have hrl : (reasonsL n l).length = (lattice n).length := by simp [reasonsL]
    have he2 : (((reasonsL n l).length : Int) != (lattice n).length) = false := by simp [hrl]
    have h10 := fun σ (hσ : σ ≠ []) => @C_LocateR σ n (l.take (k + 1)) (hd.take _) (by simp; omega) hσ
    have m1 : (l.take (k + 1)).length = k + 1 := by simp; omega
    have f1 : (l.flatMap Pick.enc).take ((k + 1) * 4) = (l.take (k + 1)).flatMap Pick.enc := flat_pre (f := Pick.enc) (w := 4) (fun _ => rfl) (by omega)
    have f2 : (l.flatMap Pick.enc).take (k * 4) = (l.take k).flatMap Pick.enc := flat_pre (f := Pick.enc) (w := 4) (fun _ => rfl) (by omega)
    simp only [m1, k3] at h10
    have m2 : (l.take k).length = k := by simp; omega
    have ht := L_tried (σ := [] :: σ) (qs := qs) (own := own) (at_ := at_) (first := first) (thn := thn) hd hps (by omega) hrl (lattice n).length 0 (by omega) (by simpa [reasonsL] using prvL_reason hl1 (lattice n) hq)
    have h11 : 0 < k → ∀ σ, σ ≠ [] → lim T (.call false i_ref09_Locate [.agg [.lst n.st.length (n.st.flatMap Stn.enc), .int .i64 n.s0.lo, .int .i64 n.s0.hi, .int .i64 n.s1.lo, .int .i64 n.s1.hi, .int .i64 n.low.x, .int .i64 n.low.y, .int .i64 n.low.z, .int .i64 n.high.x, .int .i64 n.high.y, .int .i64 n.high.z, .int .i64 n.step], .lst k ((l.take k).flatMap Pick.enc)] σ) = some (.val (.lst (located n (l.take k)).length ((located n (l.take k)).flatMap Plc.enc)) σ) := fun h0 σ hσ => by
      have := @C_LocateR σ n (l.take k) (hd.take _) (by simp; omega) hσ
      rwa [m2] at this
    have i4 : k + 1 ≤ l.length := by omega
    have i5 : k ≤ l.length := by omega
    have i6 : 0 ≤ (k : Int) + 1 := by omega
    have i7 : (k : Int) + 1 ≤ l.length := by omega
    have ht2 := L_prv (σ := [] :: σ) hd (qs := qs) hps (by omega) (lattice n).length 0 (decide (qs.length = (lattice n).length)) (by omega) (by simp)
    have he : ((qs.length : Int) == (lattice n).length) = decide (qs.length = (lattice n).length) := by rw [Bool.eq_iff_iff]; simp; omega
    have hc := L_copied (σ := σ) (n := n) (l := l) (ps := lattice n) (rs := reasonsL n l) (at_ := at_) (first := first) (thn := thn) (by omega) (reasonsL n l).length 0 (by omega)
    have he3 : (((reasonsL n l).length : Int) == (lattice n).length) = true := by simp [hrl]
    rcases Nat.eq_zero_or_pos k with hk0 | hk1
    case' inl =>
      subst hk0
      have j1 : inn 0 0 (l.length - 1) = true := i1
      have j2 : (1 : Int) ≤ l.length := by omega
      have j3 : (l.flatMap Pick.enc).take 4 = (l.take 1).flatMap Pick.enc := f1
      simp only [Nat.zero_add] at h10 k3 h3
      simp [-List.length_flatMap, -List.map_take, e_law09_TremorReasons_r0, e_law09_TremorReasons_r1, e_law09_TremorReasons_r2, e_law09_TremorReasons_r3, e_law09_TremorReasons_r4, e_law09_TremorReasons_r5, e_law09_TremorReasons_r6, e_law09_TremorReasons_r7, e_law09_TremorReasons_r8, e_law09_TremorReasons_r9, e_law09_TremorReasons_r10, e_law09_TremorReasons_r11, e_law09_TremorReasons_r12, e_law09_TremorReasons_r13, e_law09_TremorReasons_r14, e_law09_TremorReasons_r15, e_law09_TremorReasons_r16, e_law09_TremorReasons_r17, e_law09_TremorReasons_r18, e_law09_TremorReasons_r20, e_law09_TremorReasons_r21, e_law09_TremorReasons_r22, e_law09_TremorReasons_r23, e_law09_TremorReasons_r24, e_law09_TremorReasons_r25, e_law09_TremorReasons_r27, e_law09_TremorReasons_r28, e_law09_TremorReasons_r29, e_law09_TremorReasons_r30, e_law09_TremorReasons_r31, e_law09_TremorReasons_r32, e_law09_TremorReasons_r33, e_law09_TremorReasons_r35, hfew, g2', h1, h2, h3, h4, h5, h8, h9, h10, hw, h0, he2, i1, i2, i3, i4, i5, f1, f2, j1, j2, j3, C_In]
    case' inr =>
      have hne := k4 (k - 1) (by omega)
      rw [show k - 1 + 1 = k by omega] at hne
      have hne' : (((located n (l.take k)).length : Int) == 0) = false := by simpa using hne
      have h12 := h11 hk1
      simp [-List.length_flatMap, -List.map_take, e_law09_TremorReasons_r0, e_law09_TremorReasons_r1, e_law09_TremorReasons_r2, e_law09_TremorReasons_r3, e_law09_TremorReasons_r4, e_law09_TremorReasons_r5, e_law09_TremorReasons_r6, e_law09_TremorReasons_r7, e_law09_TremorReasons_r8, e_law09_TremorReasons_r9, e_law09_TremorReasons_r10, e_law09_TremorReasons_r11, e_law09_TremorReasons_r12, e_law09_TremorReasons_r13, e_law09_TremorReasons_r14, e_law09_TremorReasons_r15, e_law09_TremorReasons_r16, e_law09_TremorReasons_r17, e_law09_TremorReasons_r18, e_law09_TremorReasons_r20, e_law09_TremorReasons_r21, e_law09_TremorReasons_r22, e_law09_TremorReasons_r23, e_law09_TremorReasons_r24, e_law09_TremorReasons_r25, e_law09_TremorReasons_r27, e_law09_TremorReasons_r28, e_law09_TremorReasons_r29, e_law09_TremorReasons_r30, e_law09_TremorReasons_r31, e_law09_TremorReasons_r32, e_law09_TremorReasons_r33, e_law09_TremorReasons_r35, hfew, g2', h1, h2, h3, h4, h5, h8, h9, h10, h12, hw, h0, he2, i1, i2, i3, i4, i5, i6, i7, f1, f2, C_In, hk1, hne, hne']
    all_goals
      refine WL.to ht (by simp) rfl ?_
      rintro x e σ' ⟨rfl, rfl, a1, a2, a3, a4, a5, a6, a7, a8, a9⟩
      cases own
      · simp [-List.length_flatMap, -List.map_take, e_law09_TremorReasons_r0, e_law09_TremorReasons_r1, e_law09_TremorReasons_r2, e_law09_TremorReasons_r3, e_law09_TremorReasons_r4, e_law09_TremorReasons_r5, e_law09_TremorReasons_r6, e_law09_TremorReasons_r7, e_law09_TremorReasons_r8, e_law09_TremorReasons_r9, e_law09_TremorReasons_r10, e_law09_TremorReasons_r11, e_law09_TremorReasons_r12, e_law09_TremorReasons_r13, e_law09_TremorReasons_r14, e_law09_TremorReasons_r15, e_law09_TremorReasons_r16, e_law09_TremorReasons_r17, e_law09_TremorReasons_r18, e_law09_TremorReasons_r20, e_law09_TremorReasons_r21, e_law09_TremorReasons_r22, e_law09_TremorReasons_r23, e_law09_TremorReasons_r24, e_law09_TremorReasons_r25, e_law09_TremorReasons_r27, e_law09_TremorReasons_r28, e_law09_TremorReasons_r29, e_law09_TremorReasons_r30, e_law09_TremorReasons_r31, e_law09_TremorReasons_r32, e_law09_TremorReasons_r33, e_law09_TremorReasons_r35, a1, a2, a3, a4, a5, a6, a7, a8, a9, he]
        refine WL.to ht2 (by simp) rfl ?_
        rintro x e σ' ⟨rfl, rfl, a1, a2, a3, a4⟩
        simp only [List.drop_zero, prvL_and] at a1
        simp [-List.length_flatMap, -List.map_take, e_law09_TremorReasons_r0, e_law09_TremorReasons_r1, e_law09_TremorReasons_r2, e_law09_TremorReasons_r3, e_law09_TremorReasons_r4, e_law09_TremorReasons_r5, e_law09_TremorReasons_r6, e_law09_TremorReasons_r7, e_law09_TremorReasons_r8, e_law09_TremorReasons_r9, e_law09_TremorReasons_r10, e_law09_TremorReasons_r11, e_law09_TremorReasons_r12, e_law09_TremorReasons_r13, e_law09_TremorReasons_r14, e_law09_TremorReasons_r15, e_law09_TremorReasons_r16, e_law09_TremorReasons_r17, e_law09_TremorReasons_r18, e_law09_TremorReasons_r20, e_law09_TremorReasons_r21, e_law09_TremorReasons_r22, e_law09_TremorReasons_r23, e_law09_TremorReasons_r24, e_law09_TremorReasons_r25, e_law09_TremorReasons_r27, e_law09_TremorReasons_r28, e_law09_TremorReasons_r29, e_law09_TremorReasons_r30, e_law09_TremorReasons_r31, e_law09_TremorReasons_r32, e_law09_TremorReasons_r33, e_law09_TremorReasons_r35, a1, a2, a3, a4, h1, h2, h6, h7, C_awake]
      · simp [-List.length_flatMap, -List.map_take, e_law09_TremorReasons_r0, e_law09_TremorReasons_r1, e_law09_TremorReasons_r2, e_law09_TremorReasons_r3, e_law09_TremorReasons_r4, e_law09_TremorReasons_r5, e_law09_TremorReasons_r6, e_law09_TremorReasons_r7, e_law09_TremorReasons_r8, e_law09_TremorReasons_r9, e_law09_TremorReasons_r10, e_law09_TremorReasons_r11, e_law09_TremorReasons_r12, e_law09_TremorReasons_r13, e_law09_TremorReasons_r14, e_law09_TremorReasons_r15, e_law09_TremorReasons_r16, e_law09_TremorReasons_r17, e_law09_TremorReasons_r18, e_law09_TremorReasons_r20, e_law09_TremorReasons_r21, e_law09_TremorReasons_r22, e_law09_TremorReasons_r23, e_law09_TremorReasons_r24, e_law09_TremorReasons_r25, e_law09_TremorReasons_r27, e_law09_TremorReasons_r28, e_law09_TremorReasons_r29, e_law09_TremorReasons_r30, e_law09_TremorReasons_r31, e_law09_TremorReasons_r32, e_law09_TremorReasons_r33, e_law09_TremorReasons_r35, a1, a2, a3, a4, a5, a6, a7, a8, a9, he]
        refine WL.to hc (by simp) (by simp) ?_
        rintro x e σ' ⟨rfl, rfl, b1, b2, b4, b5, b6, b7, b8⟩
        by_cases q1 : 0 ≤ at_ ∧ at_ < (reasonsL n l).length
        · obtain ⟨q1, q2⟩ := q1
          have s0 := flat_len (f := Pair.enc) (w := 2) (fun _ => rfl) (reasonsL n l)
          have s1 := flat_set (f := Pair.enc) (w := 2) (fun _ => rfl) (l := reasonsL n l) (i := at_.toNat) (x := ⟨first, thn⟩) (by omega)
          have s2 : at_.toNat * 2 + 2 ≤ (reasonsL n l).length * 2 := by omega
          simp only [Pair.enc, List.cons_append, List.nil_append] at s1
          have s3 : ((reasonsL n l).set at_.toNat ⟨first, thn⟩).length = (reasonsL n l).length := List.length_set ..
          generalize (reasonsL n l).set at_.toNat ⟨first, thn⟩ = rs2 at s1 s3
          have s4 := L_prvS (σ := σ) hd (qs := rs2) hps (by omega) (lattice n).length 0 true (by omega) (fun _ => by omega)
          have s5 := fun σ => @C_PairsS σ rs2 (by omega)
          have s6 := fun σ => @C_ProveNone σ n l rs2 hl0 hn0 hp (by omega)
          rw [s3] at s4 s5 s6
          simp only [hw, decide_true, Bool.true_and] at s6
          simp [-List.length_flatMap, -List.map_take, e_law09_TremorReasons_r0, e_law09_TremorReasons_r1, e_law09_TremorReasons_r2, e_law09_TremorReasons_r3, e_law09_TremorReasons_r4, e_law09_TremorReasons_r5, e_law09_TremorReasons_r6, e_law09_TremorReasons_r7, e_law09_TremorReasons_r8, e_law09_TremorReasons_r9, e_law09_TremorReasons_r10, e_law09_TremorReasons_r11, e_law09_TremorReasons_r12, e_law09_TremorReasons_r13, e_law09_TremorReasons_r14, e_law09_TremorReasons_r15, e_law09_TremorReasons_r16, e_law09_TremorReasons_r17, e_law09_TremorReasons_r18, e_law09_TremorReasons_r20, e_law09_TremorReasons_r21, e_law09_TremorReasons_r22, e_law09_TremorReasons_r23, e_law09_TremorReasons_r24, e_law09_TremorReasons_r25, e_law09_TremorReasons_r27, e_law09_TremorReasons_r28, e_law09_TremorReasons_r29, e_law09_TremorReasons_r30, e_law09_TremorReasons_r31, e_law09_TremorReasons_r32, e_law09_TremorReasons_r33, e_law09_TremorReasons_r35, b1, b2, b4, b5, b6, b7, b8, q1, q2, s0, s1, s2, he3]
          refine WL.to s4 (by simp) (by simp) ?_
          rintro x e σ' ⟨rfl, rfl, a1, a2, a3, a4⟩
          simp only [List.drop_zero, Bool.true_and] at a1
          simp [-List.length_flatMap, -List.map_take, e_law09_TremorReasons_r0, e_law09_TremorReasons_r1, e_law09_TremorReasons_r2, e_law09_TremorReasons_r3, e_law09_TremorReasons_r4, e_law09_TremorReasons_r5, e_law09_TremorReasons_r6, e_law09_TremorReasons_r7, e_law09_TremorReasons_r8, e_law09_TremorReasons_r9, e_law09_TremorReasons_r10, e_law09_TremorReasons_r11, e_law09_TremorReasons_r12, e_law09_TremorReasons_r13, e_law09_TremorReasons_r14, e_law09_TremorReasons_r15, e_law09_TremorReasons_r16, e_law09_TremorReasons_r17, e_law09_TremorReasons_r18, e_law09_TremorReasons_r20, e_law09_TremorReasons_r21, e_law09_TremorReasons_r22, e_law09_TremorReasons_r23, e_law09_TremorReasons_r24, e_law09_TremorReasons_r25, e_law09_TremorReasons_r27, e_law09_TremorReasons_r28, e_law09_TremorReasons_r29, e_law09_TremorReasons_r30, e_law09_TremorReasons_r31, e_law09_TremorReasons_r32, e_law09_TremorReasons_r33, e_law09_TremorReasons_r35, a1, a2, a3, a4, h1, h2, s5, s6, C_awake]
        · have s4 := L_prvS (σ := σ) hd (qs := reasonsL n l) hps (by omega) (lattice n).length 0 true (by omega) (fun _ => by omega)
          have s5 := fun σ => @C_PairsS σ (reasonsL n l) (by omega)
          have s6 := fun σ => @C_ProveNone σ n l (reasonsL n l) hl0 hn0 hp (by omega)
          simp only [hw, decide_true, Bool.true_and] at s6
          by_cases q2 : 0 ≤ at_
          · have q3 : ¬ at_ < (reasonsL n l).length := fun h4 => q1 ⟨q2, h4⟩
            simp [-List.length_flatMap, -List.map_take, e_law09_TremorReasons_r0, e_law09_TremorReasons_r1, e_law09_TremorReasons_r2, e_law09_TremorReasons_r3, e_law09_TremorReasons_r4, e_law09_TremorReasons_r5, e_law09_TremorReasons_r6, e_law09_TremorReasons_r7, e_law09_TremorReasons_r8, e_law09_TremorReasons_r9, e_law09_TremorReasons_r10, e_law09_TremorReasons_r11, e_law09_TremorReasons_r12, e_law09_TremorReasons_r13, e_law09_TremorReasons_r14, e_law09_TremorReasons_r15, e_law09_TremorReasons_r16, e_law09_TremorReasons_r17, e_law09_TremorReasons_r18, e_law09_TremorReasons_r20, e_law09_TremorReasons_r21, e_law09_TremorReasons_r22, e_law09_TremorReasons_r23, e_law09_TremorReasons_r24, e_law09_TremorReasons_r25, e_law09_TremorReasons_r27, e_law09_TremorReasons_r28, e_law09_TremorReasons_r29, e_law09_TremorReasons_r30, e_law09_TremorReasons_r31, e_law09_TremorReasons_r32, e_law09_TremorReasons_r33, e_law09_TremorReasons_r35, b1, b2, b4, b5, b6, b7, b8, q2, q3, he3]
            refine WL.to s4 (by simp) (by simp) ?_
            rintro x e σ' ⟨rfl, rfl, a1, a2, a3, a4⟩
            simp only [List.drop_zero, Bool.true_and] at a1
            simp [-List.length_flatMap, -List.map_take, e_law09_TremorReasons_r0, e_law09_TremorReasons_r1, e_law09_TremorReasons_r2, e_law09_TremorReasons_r3, e_law09_TremorReasons_r4, e_law09_TremorReasons_r5, e_law09_TremorReasons_r6, e_law09_TremorReasons_r7, e_law09_TremorReasons_r8, e_law09_TremorReasons_r9, e_law09_TremorReasons_r10, e_law09_TremorReasons_r11, e_law09_TremorReasons_r12, e_law09_TremorReasons_r13, e_law09_TremorReasons_r14, e_law09_TremorReasons_r15, e_law09_TremorReasons_r16, e_law09_TremorReasons_r17, e_law09_TremorReasons_r18, e_law09_TremorReasons_r20, e_law09_TremorReasons_r21, e_law09_TremorReasons_r22, e_law09_TremorReasons_r23, e_law09_TremorReasons_r24, e_law09_TremorReasons_r25, e_law09_TremorReasons_r27, e_law09_TremorReasons_r28, e_law09_TremorReasons_r29, e_law09_TremorReasons_r30, e_law09_TremorReasons_r31, e_law09_TremorReasons_r32, e_law09_TremorReasons_r33, e_law09_TremorReasons_r35, a1, a2, a3, a4, h1, h2, s5, s6, C_awake]
          · simp [-List.length_flatMap, -List.map_take, e_law09_TremorReasons_r0, e_law09_TremorReasons_r1, e_law09_TremorReasons_r2, e_law09_TremorReasons_r3, e_law09_TremorReasons_r4, e_law09_TremorReasons_r5, e_law09_TremorReasons_r6, e_law09_TremorReasons_r7, e_law09_TremorReasons_r8, e_law09_TremorReasons_r9, e_law09_TremorReasons_r10, e_law09_TremorReasons_r11, e_law09_TremorReasons_r12, e_law09_TremorReasons_r13, e_law09_TremorReasons_r14, e_law09_TremorReasons_r15, e_law09_TremorReasons_r16, e_law09_TremorReasons_r17, e_law09_TremorReasons_r18, e_law09_TremorReasons_r20, e_law09_TremorReasons_r21, e_law09_TremorReasons_r22, e_law09_TremorReasons_r23, e_law09_TremorReasons_r24, e_law09_TremorReasons_r25, e_law09_TremorReasons_r27, e_law09_TremorReasons_r28, e_law09_TremorReasons_r29, e_law09_TremorReasons_r30, e_law09_TremorReasons_r31, e_law09_TremorReasons_r32, e_law09_TremorReasons_r33, e_law09_TremorReasons_r35, b1, b2, b4, b5, b6, b7, b8, q2, he3]
            refine WL.to s4 (by simp) (by simp) ?_
            rintro x e σ' ⟨rfl, rfl, a1, a2, a3, a4⟩
            simp only [List.drop_zero, Bool.true_and] at a1
            simp [-List.length_flatMap, -List.map_take, e_law09_TremorReasons_r0, e_law09_TremorReasons_r1, e_law09_TremorReasons_r2, e_law09_TremorReasons_r3, e_law09_TremorReasons_r4, e_law09_TremorReasons_r5, e_law09_TremorReasons_r6, e_law09_TremorReasons_r7, e_law09_TremorReasons_r8, e_law09_TremorReasons_r9, e_law09_TremorReasons_r10, e_law09_TremorReasons_r11, e_law09_TremorReasons_r12, e_law09_TremorReasons_r13, e_law09_TremorReasons_r14, e_law09_TremorReasons_r15, e_law09_TremorReasons_r16, e_law09_TremorReasons_r17, e_law09_TremorReasons_r18, e_law09_TremorReasons_r20, e_law09_TremorReasons_r21, e_law09_TremorReasons_r22, e_law09_TremorReasons_r23, e_law09_TremorReasons_r24, e_law09_TremorReasons_r25, e_law09_TremorReasons_r27, e_law09_TremorReasons_r28, e_law09_TremorReasons_r29, e_law09_TremorReasons_r30, e_law09_TremorReasons_r31, e_law09_TremorReasons_r32, e_law09_TremorReasons_r33, e_law09_TremorReasons_r35, a1, a2, a3, a4, h1, h2, s5, s6, C_awake]

theorem go_TremorReasons (x0 x1 x2 x3 x4 x5 x6 : D) (t0 : tyNet.hasV x0) (t1 : (Ty.slice 4 tyPick).hasV x1) (t2 : (Ty.slice 2 tyRg).hasV x2) (t3 : Ty.bool.hasV x3) (t4 : (Ty.int .i64).hasV x4) (t5 : (Ty.int .i64).hasV x5) (t6 : (Ty.int .i64).hasV x6) :
    ∃ σ', lim T (.call false i_law09_TremorReasons [x0, x1, x2, x3, x4, x5, x6] [[]]) = some (.val (.bool true) σ') := by
  obtain ⟨n, rfl, hn⟩ := net_of t0
  obtain ⟨l, rfl, hl, hp⟩ := rows_of (fun ds h => pick_of h) t1
  obtain ⟨q, rfl, hq, _⟩ := rows_of (fun ds h => pair_of h) t2
  obtain ⟨b, rfl⟩ := bool_of t3
  obtain ⟨i, rfl, hi⟩ := i64_of t4
  obtain ⟨j, rfl, hj⟩ := i64_of t5
  obtain ⟨k, rfl, hk⟩ := i64_of t6
  exact ⟨_, law_Reasons hp hi (by simp)⟩
end Go.Proofs.Yticpenoicajakaa
