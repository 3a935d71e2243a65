/-
  The widest of some flows: of the program, of the reference.
-/
import Derived.Test.YtcjjdaifpboaaaaH8
set_option linter.unusedVariables false
set_option linter.unusedSimpArgs false
namespace Go.Proofs.Ytcjjdaifpboaaaa
open Go Go.Abs Go.Trial
variable {σ : Stack}

def widL (t : Test) (l : List Int) : Nat → Nat → Int → Int → Int
  | 0, _, b, _ => b
  | m + 1, i, b, w => match l[i]? with
    | some q => if w < (dOf q (sets t)).hi - (dOf q (sets t)).lo then widL t l m (i + 1) i ((dOf q (sets t)).hi - (dOf q (sets t)).lo) else widL t l m (i + 1) b w
    | none => b
theorem dOf_bound {t : Test} (h : Tv t) {q : Int} (hq : 0 ≤ q ∧ q ≤ 1000) : 0 ≤ (dOf q (sets t)).lo ∧ (dOf q (sets t)).lo ≤ 1010100000 ∧ 0 ≤ (dOf q (sets t)).hi ∧ (dOf q (sets t)).hi ≤ 1010100000 := by
  have key : ∀ x ∈ sets t, 0 ≤ (shift q x).lo ∧ (shift q x).lo ≤ 1010100000 ∧ 0 ≤ (shift q x).hi ∧ (shift q x).hi ≤ 1010100000 := by
    intro x hx
    obtain ⟨h1, hB, _, h4, h5, h6⟩ := sets_ok h hx
    have hb := h.b; have hc := h.c; have h7 := hB.b; have h8 := hB.c
    have d1 := drop_bound (a := x.2.lo) (b := x.1.b) (c := x.1.c) (q := q) (by omega) (by omega) (by omega) hq
    have d2 := drop_bound (a := x.2.hi) (b := x.1.b) (c := x.1.c) (q := q) (by omega) (by omega) (by omega) hq
    simp only [shift]
    omega
  by_cases hne : sets t = []
  · simp [dOf, hne, spanL]
  have hne' : (sets t).map (shift q) ≠ [] := fun h => hne (by simpa using h)
  obtain ⟨r, hr, he⟩ := spanL_lo hne'
  obtain ⟨s, hs, hf⟩ := spanL_hi hne'
  simp only [List.mem_map] at hr hs
  obtain ⟨x, hx, rfl⟩ := hr
  obtain ⟨y, hy, rfl⟩ := hs
  have k1 := key x hx
  have k2 := key y hy
  unfold dOf
  omega
theorem L_flows {t : Test} {l : List Int} (hl : l.length ≤ 100000) : ∀ (m i : Nat), i + m = l.length →
    WL T [1, 2, 24, 25, 26] false f_trial_Widest_l12 [(1, .lst l.length (l.flatMap intE)), (2, .cref t.enc), (24, .lst l.length (l.flatMap intE)), (25, .int .i64 l.length), (26, .int .i64 i)] σ
      (fun x e σ' => σ' = σ ∧ if allB (l.drop i) (fun q => inn q 0 1000) then x = .exit 0 ∧ get e 1 = .lst l.length (l.flatMap intE) ∧ get e 2 = .cref t.enc else x = .ret ∧ get e 4 = .int .i64 0 ∧ get e 5 = .int .i64 2)
  | 0, i, hi => by
    refine WL_step e_trial_Widest_l12 ?_
    have h1 : ¬ i < l.length := by omega
    have h2 : l.drop i = [] := List.drop_eq_nil_of_le (by omega)
    simp [-List.length_flatMap, -List.map_take, e_trial_Widest_r0, e_trial_Widest_r1, e_trial_Widest_r2, e_trial_Widest_r3, e_trial_Widest_r4, e_trial_Widest_r5, e_trial_Widest_r6, e_trial_Widest_r7, e_trial_Widest_r8, e_trial_Widest_r9, e_trial_Widest_r10, e_trial_Widest_r11, e_trial_Widest_r13, e_trial_Widest_r14, e_trial_Widest_r15, e_trial_Widest_r16, e_trial_Widest_r17, e_trial_Widest_r18, e_trial_Widest_r19, e_trial_Widest_r20, e_trial_Widest_r21, e_trial_Widest_r22, e_trial_Widest_r24, h1, h2, allB]
  | m + 1, i, hi => by
    refine WL_step e_trial_Widest_l12 ?_
    have h1 : i < l.length := by omega
    obtain ⟨x, hx⟩ : ∃ x, l[i]? = some x := ⟨_, List.getElem?_eq_getElem h1⟩
    have h2 := flat_at (f := intE) (w := 1) (fun _ => rfl) hx
    have h4 := wnext h1 (by omega)
    have h5 : l.drop i = x :: l.drop (i + 1) := by
      rw [List.drop_eq_getElem_cons h1]
      rw [List.getElem?_eq_getElem h1] at hx; cases hx; rfl
    have ih := L_flows (t := t) hl m (i + 1) (by omega)
    have h6 : allB (l.drop i) (fun q => inn q 0 1000) = (inn x 0 1000 && allB (l.drop (i + 1)) (fun q => inn q 0 1000)) := by rw [h5]; rfl
    rw [h6]
    simp only [Nat.mul_one] at h2
    cases hc : inn x 0 1000
    · simp [-List.length_flatMap, -List.map_take, e_trial_Widest_r0, e_trial_Widest_r1, e_trial_Widest_r2, e_trial_Widest_r3, e_trial_Widest_r4, e_trial_Widest_r5, e_trial_Widest_r6, e_trial_Widest_r7, e_trial_Widest_r8, e_trial_Widest_r9, e_trial_Widest_r10, e_trial_Widest_r11, e_trial_Widest_r13, e_trial_Widest_r14, e_trial_Widest_r15, e_trial_Widest_r16, e_trial_Widest_r17, e_trial_Widest_r18, e_trial_Widest_r19, e_trial_Widest_r20, e_trial_Widest_r21, e_trial_Widest_r22, e_trial_Widest_r24, h1, h2, h4, C_within, hc]
    · simp [-List.length_flatMap, -List.map_take, e_trial_Widest_r0, e_trial_Widest_r1, e_trial_Widest_r2, e_trial_Widest_r3, e_trial_Widest_r4, e_trial_Widest_r5, e_trial_Widest_r6, e_trial_Widest_r7, e_trial_Widest_r8, e_trial_Widest_r9, e_trial_Widest_r10, e_trial_Widest_r11, e_trial_Widest_r13, e_trial_Widest_r14, e_trial_Widest_r15, e_trial_Widest_r16, e_trial_Widest_r17, e_trial_Widest_r18, e_trial_Widest_r19, e_trial_Widest_r20, e_trial_Widest_r21, e_trial_Widest_r22, e_trial_Widest_r24, h1, h2, h4, C_within, hc]
      exact WL.to ih (by simp) rfl fun x e σ' hh => hh
theorem L_wide {t : Test} (h : Tv t) {l : List Int} (hl : l.length ≤ 100000) (hq : ∀ q ∈ l, 0 ≤ q ∧ q ≤ 1000) (hσ : σ ≠ []) : ∀ (m i : Nat) (b w : Int), i + m = l.length →
    WL T [2, 9, 10, 36, 37, 38] false f_trial_Widest_l23 [(2, .cref t.enc), (9, .int .i64 b), (10, .int .i64 w), (36, .lst l.length (l.flatMap intE)), (37, .int .i64 l.length), (38, .int .i64 i)] σ
      (fun x e σ' => σ' = σ ∧ x = .exit 2 ∧ get e 9 = .int .i64 (widL t l m i b w))
  | 0, i, b, w, hi => by
    refine WL_step e_trial_Widest_l23 ?_
    have h1 : ¬ i < l.length := by omega
    simp [-List.length_flatMap, -List.map_take, e_trial_Widest_r0, e_trial_Widest_r1, e_trial_Widest_r2, e_trial_Widest_r3, e_trial_Widest_r4, e_trial_Widest_r5, e_trial_Widest_r6, e_trial_Widest_r7, e_trial_Widest_r8, e_trial_Widest_r9, e_trial_Widest_r10, e_trial_Widest_r11, e_trial_Widest_r13, e_trial_Widest_r14, e_trial_Widest_r15, e_trial_Widest_r16, e_trial_Widest_r17, e_trial_Widest_r18, e_trial_Widest_r19, e_trial_Widest_r20, e_trial_Widest_r21, e_trial_Widest_r22, e_trial_Widest_r24, h1, widL]
  | m + 1, i, b, w, hi => by
    refine WL_step e_trial_Widest_l23 ?_
    have h1 : i < l.length := by omega
    obtain ⟨x, hx⟩ : ∃ x, l[i]? = some x := ⟨_, List.getElem?_eq_getElem h1⟩
    have h2 := flat_at (f := intE) (w := 1) (fun _ => rfl) hx
    have h4 := wnext h1 (by omega)
    have hqx := hq x (List.mem_of_getElem? hx)
    have hd := fun σ (hσ : σ ≠ []) => @C_drawdown σ t h x hqx hσ
    have hb := dOf_bound h hqx
    have w1 := w64 (n := (dOf x (sets t)).hi - (dOf x (sets t)).lo) (by omega)
    have e1 : widL t l (m + 1) i b w = if w < (dOf x (sets t)).hi - (dOf x (sets t)).lo then widL t l m (i + 1) i ((dOf x (sets t)).hi - (dOf x (sets t)).lo) else widL t l m (i + 1) b w := by simp [widL, hx]
    rw [e1]
    simp only [Nat.mul_one] at h2
    by_cases hc : w < (dOf x (sets t)).hi - (dOf x (sets t)).lo
    · have ih := L_wide h hl hq hσ m (i + 1) i ((dOf x (sets t)).hi - (dOf x (sets t)).lo) (by omega)
      rw [if_pos hc]
      simp [-List.length_flatMap, -List.map_take, e_trial_Widest_r0, e_trial_Widest_r1, e_trial_Widest_r2, e_trial_Widest_r3, e_trial_Widest_r4, e_trial_Widest_r5, e_trial_Widest_r6, e_trial_Widest_r7, e_trial_Widest_r8, e_trial_Widest_r9, e_trial_Widest_r10, e_trial_Widest_r11, e_trial_Widest_r13, e_trial_Widest_r14, e_trial_Widest_r15, e_trial_Widest_r16, e_trial_Widest_r17, e_trial_Widest_r18, e_trial_Widest_r19, e_trial_Widest_r20, e_trial_Widest_r21, e_trial_Widest_r22, e_trial_Widest_r24, h1, h2, h4, hd, hσ, w1, hc]
      exact WL.to ih (by simp) rfl fun x e σ' hh => hh
    · have ih := L_wide h hl hq hσ m (i + 1) b w (by omega)
      rw [if_neg hc]
      simp [-List.length_flatMap, -List.map_take, e_trial_Widest_r0, e_trial_Widest_r1, e_trial_Widest_r2, e_trial_Widest_r3, e_trial_Widest_r4, e_trial_Widest_r5, e_trial_Widest_r6, e_trial_Widest_r7, e_trial_Widest_r8, e_trial_Widest_r9, e_trial_Widest_r10, e_trial_Widest_r11, e_trial_Widest_r13, e_trial_Widest_r14, e_trial_Widest_r15, e_trial_Widest_r16, e_trial_Widest_r17, e_trial_Widest_r18, e_trial_Widest_r19, e_trial_Widest_r20, e_trial_Widest_r21, e_trial_Widest_r22, e_trial_Widest_r24, h1, h2, h4, hd, hσ, w1, hc]
      exact WL.to ih (by simp) rfl fun x e σ' hh => hh
theorem L_Wide {t : Test} (h : Tv t) {l : List Int} (hl : l.length ≤ 100000) (hq : ∀ q ∈ l, 0 ≤ q ∧ q ≤ 1000) : ∀ (m i : Nat) (b w : Int), i + m = l.length →
    WL T [1, 2, 5, 6, 7] false f_ref04_Widest_l8 [(1, .lst l.length (l.flatMap intE)), (2, .cref t.enc), (5, .int .i64 b), (6, .int .i64 w), (7, .int .i64 i)] σ
      (fun x e σ' => σ' = σ ∧ x = .exit 0 ∧ get e 5 = .int .i64 (widL t l m i b w))
  | 0, i, b, w, hi => by
    refine WL_step e_ref04_Widest_l8 ?_
    have h1 : ¬ i < l.length := by omega
    simp [-List.length_flatMap, -List.map_take, e_ref04_Widest_r0, e_ref04_Widest_r1, e_ref04_Widest_r2, e_ref04_Widest_r3, e_ref04_Widest_r4, e_ref04_Widest_r5, e_ref04_Widest_r6, e_ref04_Widest_r7, e_ref04_Widest_r9, h1, widL]
  | m + 1, i, b, w, hi => by
    refine WL_step e_ref04_Widest_l8 ?_
    have h1 : i < l.length := by omega
    obtain ⟨x, hx⟩ : ∃ x, l[i]? = some x := ⟨_, List.getElem?_eq_getElem h1⟩
    have h2 := flat_at (f := intE) (w := 1) (fun _ => rfl) hx
    have h4 := wnext h1 (by omega)
    have hqx := hq x (List.mem_of_getElem? hx)
    have hd := fun σ => @C_Drawdown σ t h x hqx
    simp only [drawD] at hd
    have hb := dOf_bound h hqx
    have w1 := w64 (n := (dOf x (sets t)).hi - (dOf x (sets t)).lo) (by omega)
    have e1 : widL t l (m + 1) i b w = if w < (dOf x (sets t)).hi - (dOf x (sets t)).lo then widL t l m (i + 1) i ((dOf x (sets t)).hi - (dOf x (sets t)).lo) else widL t l m (i + 1) b w := by simp [widL, hx]
    rw [e1]
    simp only [Nat.mul_one] at h2
    by_cases hc : w < (dOf x (sets t)).hi - (dOf x (sets t)).lo
    · have ih := L_Wide h hl hq m (i + 1) i ((dOf x (sets t)).hi - (dOf x (sets t)).lo) (by omega)
      rw [if_pos hc]
      simp [-List.length_flatMap, -List.map_take, e_ref04_Widest_r0, e_ref04_Widest_r1, e_ref04_Widest_r2, e_ref04_Widest_r3, e_ref04_Widest_r4, e_ref04_Widest_r5, e_ref04_Widest_r6, e_ref04_Widest_r7, e_ref04_Widest_r9, h1, h2, h4, hd, w1, hc]
      exact WL.to ih (by simp) rfl fun x e σ' hh => hh
    · have ih := L_Wide h hl hq m (i + 1) b w (by omega)
      rw [if_neg hc]
      simp [-List.length_flatMap, -List.map_take, e_ref04_Widest_r0, e_ref04_Widest_r1, e_ref04_Widest_r2, e_ref04_Widest_r3, e_ref04_Widest_r4, e_ref04_Widest_r5, e_ref04_Widest_r6, e_ref04_Widest_r7, e_ref04_Widest_r9, h1, h2, h4, hd, w1, hc]
      exact WL.to ih (by simp) rfl fun x e σ' hh => hh

def wideOk (l : List Int) : Bool := inn l.length 1 12 && allB l (fun q => inn q 0 1000)
def wideD (t : Test) (l : List Int) : D :=
  if fault t = 0 then (if wideOk l then (if (sets t).isEmpty then .tup [.int .i64 0, .int .i64 7] else .tup [.int .i64 (widL t l l.length 0 0 (-1)), .int .i64 0]) else .tup [.int .i64 0, .int .i64 2]) else .tup [.int .i64 0, .int .i64 (fault t)]
theorem C_widest {t : Test} (hl : t.st.length ≤ 100000) {l : List Int} (hll : l.length ≤ 100000) : lim T (.call false i_trial_Widest [.agg [.int .i64 t.a.lo, .int .i64 t.a.hi, .int .i64 t.b.lo, .int .i64 t.b.hi, .int .i64 t.c.lo, .int .i64 t.c.hi, .lst t.st.length (t.st.flatMap Step.enc)], .lst l.length (l.flatMap intE)] σ) = some (.val (wideD t l) σ) := by
  refine call_of T_trial_Widest e_trial_Widest rfl ?_
  have hf := fun σ => @C_check σ t hl
  by_cases h0 : fault t = 0
  rotate_left
  · simp [-List.length_flatMap, -List.map_take, e_trial_Widest_r0, e_trial_Widest_r1, e_trial_Widest_r2, e_trial_Widest_r3, e_trial_Widest_r4, e_trial_Widest_r5, e_trial_Widest_r6, e_trial_Widest_r7, e_trial_Widest_r8, e_trial_Widest_r9, e_trial_Widest_r10, e_trial_Widest_r11, e_trial_Widest_r13, e_trial_Widest_r14, e_trial_Widest_r15, e_trial_Widest_r16, e_trial_Widest_r17, e_trial_Widest_r18, e_trial_Widest_r19, e_trial_Widest_r20, e_trial_Widest_r21, e_trial_Widest_r22, e_trial_Widest_r24, hf, h0, wideD]
  have h := fault_tv h0
  cases hn : inn l.length 1 12
  · simp [-List.length_flatMap, -List.map_take, e_trial_Widest_r0, e_trial_Widest_r1, e_trial_Widest_r2, e_trial_Widest_r3, e_trial_Widest_r4, e_trial_Widest_r5, e_trial_Widest_r6, e_trial_Widest_r7, e_trial_Widest_r8, e_trial_Widest_r9, e_trial_Widest_r10, e_trial_Widest_r11, e_trial_Widest_r13, e_trial_Widest_r14, e_trial_Widest_r15, e_trial_Widest_r16, e_trial_Widest_r17, e_trial_Widest_r18, e_trial_Widest_r19, e_trial_Widest_r20, e_trial_Widest_r21, e_trial_Widest_r22, e_trial_Widest_r24, hf, h0, C_within, hn, wideD, wideOk]
  simp [-List.length_flatMap, -List.map_take, e_trial_Widest_r0, e_trial_Widest_r1, e_trial_Widest_r2, e_trial_Widest_r3, e_trial_Widest_r4, e_trial_Widest_r5, e_trial_Widest_r6, e_trial_Widest_r7, e_trial_Widest_r8, e_trial_Widest_r9, e_trial_Widest_r10, e_trial_Widest_r11, e_trial_Widest_r13, e_trial_Widest_r14, e_trial_Widest_r15, e_trial_Widest_r16, e_trial_Widest_r17, e_trial_Widest_r18, e_trial_Widest_r19, e_trial_Widest_r20, e_trial_Widest_r21, e_trial_Widest_r22, e_trial_Widest_r24, hf, h0, C_within, hn]
  refine WL.to (L_flows (σ := [] :: σ) (t := t) hll l.length 0 (by omega)) (by simp) rfl ?_
  rintro x e σ' ⟨rfl, hx⟩
  simp only [List.drop_zero] at hx
  cases hA : allB l (fun q => inn q 0 1000)
  · rw [hA] at hx
    simp only [Bool.false_eq_true, if_false] at hx
    obtain ⟨rfl, g4, g5⟩ := hx
    simp [g4, g5, wideD, wideOk, h0, hn, hA]
  rw [hA] at hx
  simp only [if_true] at hx
  obtain ⟨rfl, g1, g2⟩ := hx
  have hd := fun σ (hσ : σ ≠ []) => @C_none σ t h hσ
  cases hs : (sets t).isEmpty
  rotate_left
  · rw [hs] at hd
    simp [-List.length_flatMap, -List.map_take, e_trial_Widest_r0, e_trial_Widest_r1, e_trial_Widest_r2, e_trial_Widest_r3, e_trial_Widest_r4, e_trial_Widest_r5, e_trial_Widest_r6, e_trial_Widest_r7, e_trial_Widest_r8, e_trial_Widest_r9, e_trial_Widest_r10, e_trial_Widest_r11, e_trial_Widest_r13, e_trial_Widest_r14, e_trial_Widest_r15, e_trial_Widest_r16, e_trial_Widest_r17, e_trial_Widest_r18, e_trial_Widest_r19, e_trial_Widest_r20, e_trial_Widest_r21, e_trial_Widest_r22, e_trial_Widest_r24, g1, g2, hd, wideD, wideOk, h0, hn, hA, hs]
  rw [hs] at hd
  simp [-List.length_flatMap, -List.map_take, e_trial_Widest_r0, e_trial_Widest_r1, e_trial_Widest_r2, e_trial_Widest_r3, e_trial_Widest_r4, e_trial_Widest_r5, e_trial_Widest_r6, e_trial_Widest_r7, e_trial_Widest_r8, e_trial_Widest_r9, e_trial_Widest_r10, e_trial_Widest_r11, e_trial_Widest_r13, e_trial_Widest_r14, e_trial_Widest_r15, e_trial_Widest_r16, e_trial_Widest_r17, e_trial_Widest_r18, e_trial_Widest_r19, e_trial_Widest_r20, e_trial_Widest_r21, e_trial_Widest_r22, e_trial_Widest_r24, g1, g2, hd]
  refine WL.to (L_wide (σ := [] :: σ) h hll (fun q hq => inn_iff.1 (allB_iff.1 hA q hq)) (by simp) l.length 0 0 (-1) (by omega)) (by simp) rfl ?_
  rintro x e σ' ⟨rfl, rfl, g9⟩
  simp [-List.length_flatMap, -List.map_take, e_trial_Widest_r0, e_trial_Widest_r1, e_trial_Widest_r2, e_trial_Widest_r3, e_trial_Widest_r4, e_trial_Widest_r5, e_trial_Widest_r6, e_trial_Widest_r7, e_trial_Widest_r8, e_trial_Widest_r9, e_trial_Widest_r10, e_trial_Widest_r11, e_trial_Widest_r13, e_trial_Widest_r14, e_trial_Widest_r15, e_trial_Widest_r16, e_trial_Widest_r17, e_trial_Widest_r18, e_trial_Widest_r19, e_trial_Widest_r20, e_trial_Widest_r21, e_trial_Widest_r22, e_trial_Widest_r24, g9, wideD, wideOk, h0, hn, hA, hs]
theorem C_Widest {t : Test} (h : Tv t) {l : List Int} (hll : l.length ≤ 100000) (hq : ∀ q ∈ l, 0 ≤ q ∧ q ≤ 1000) : lim T (.call false i_ref04_Widest [.agg [.int .i64 t.a.lo, .int .i64 t.a.hi, .int .i64 t.b.lo, .int .i64 t.b.hi, .int .i64 t.c.lo, .int .i64 t.c.hi, .lst t.st.length (t.st.flatMap Step.enc)], .lst l.length (l.flatMap intE)] σ) = some (.val (.int .i64 (widL t l l.length 0 0 (-1))) σ) := by
  refine call_of T_ref04_Widest e_ref04_Widest rfl ?_
  simp [-List.length_flatMap, -List.map_take, e_ref04_Widest_r0, e_ref04_Widest_r1, e_ref04_Widest_r2, e_ref04_Widest_r3, e_ref04_Widest_r4, e_ref04_Widest_r5, e_ref04_Widest_r6, e_ref04_Widest_r7, e_ref04_Widest_r9]
  refine WL.to (L_Wide (σ := [] :: σ) h hll hq l.length 0 0 (-1) (by omega)) (by simp) rfl ?_
  rintro x e σ' ⟨rfl, rfl, g5⟩
  simp [-List.length_flatMap, -List.map_take, e_ref04_Widest_r0, e_ref04_Widest_r1, e_ref04_Widest_r2, e_ref04_Widest_r3, e_ref04_Widest_r4, e_ref04_Widest_r5, e_ref04_Widest_r6, e_ref04_Widest_r7, e_ref04_Widest_r9, g5]
end Go.Proofs.Ytcjjdaifpboaaaa
