/-
  The least plan, of the program: its closures.
-/
import Derived.Test.YtcjjdaifpboaaaaS6
import Derived.Test.YtcjjdaifpboaaaaPlanPlain
set_option linter.unusedVariables false
set_option linter.unusedSimpArgs false
namespace Go.Proofs.Ytcjjdaifpboaaaa
open Go Go.Abs Go.Trial
variable {σ : Stack}

/-- The segment of Plan's own frame: p; what now leads to; now; pulsed; decides; grow. -/
def plF (s : Surv) (L v : Nat) (cs : List D) (n : Nat) : List Blk := [.cells 0 (pv s (Gr s)), .cells v cs, .cells 0 [.sl L 1 v 0 n 1], .cells 0 [.fn i_trial_Plan_1 [] [.ref L 2 0 0, .ref L 0 0 0]],
  .cells 0 [.fn i_trial_Plan_2 [] [.cref s.enc, .ref L 0 0 0, .ref L 3 0 0]], .cells 0 [.fn i_trial_Plan_3 [] [.ref L 4 0 0, .cref s.enc, .ref L 2 0 0, .ref L 5 0 0]]]
theorem sg0 {F : List Blk} : ∀ {pre : Stack}, seg? (pre ++ F :: σ) σ.length = some F
  | [] => by simp
  | s :: pre => by
    have ih := sg0 (F := F) (pre := pre)
    have h : ¬ (pre.length + (σ.length + 1) = σ.length) := by omega
    simp [h, ih]
theorem ss0 {F F' : List Blk} : ∀ {pre : Stack}, setSeg (pre ++ F :: σ) σ.length F' = pre ++ F' :: σ
  | [] => by simp
  | s :: pre => by
    have ih := ss0 (F := F) (F' := F') (pre := pre)
    have h : ¬ (pre.length + (σ.length + 1) = σ.length) := by omega
    simp [h, ih]
section
variable {s : Surv} {L v n : Nat} {cs : List D}
theorem pf0 : (plF s L v cs n)[0]? = some (.cells 0 (pv s (Gr s))) := rfl
theorem pf1 : (plF s L v cs n)[1]? = some (.cells v cs) := rfl
theorem pf2 : (plF s L v cs n)[2]? = some (.cells 0 [.sl L 1 v 0 n 1]) := rfl
theorem pf3 : (plF s L v cs n)[3]? = some (.cells 0 [.fn i_trial_Plan_1 [] [.ref L 2 0 0, .ref L 0 0 0]]) := rfl
theorem pf4 : (plF s L v cs n)[4]? = some (.cells 0 [.fn i_trial_Plan_2 [] [.cref s.enc, .ref L 0 0 0, .ref L 3 0 0]]) := rfl
theorem pf5 : (plF s L v cs n)[5]? = some (.cells 0 [.fn i_trial_Plan_3 [] [.ref L 4 0 0, .cref s.enc, .ref L 2 0 0, .ref L 5 0 0]]) := rfl
theorem pfs {v' : Nat} {cs' : List D} {n' : Nat} : ((plF s L v cs n).set 1 (.cells v' cs')).set 2 (.cells 0 [.sl L 1 v' 0 n' 1]) = plF s L v' cs' n' := rfl
theorem pfs2 {n' : Nat} : (plF s L v cs n).set 2 (.cells 0 [.sl L 1 v 0 n' 1]) = plF s L v cs n' := rfl
end
theorem C_pl11 {s : Surv} {v n x w : Nat} {cs : List D} {pre : Stack} (hx : x < 10) (hw : w < 10) :
    lim T (.call false i_trial_Plan_1_1 [.int .i64 x, .ref σ.length 0 0 0, .cref [.int .i64 w]] (pre ++ plF s σ.length v cs n :: σ)) = some (.val (.bool (decide (Gr s x = Gr s w))) (pre ++ plF s σ.length v cs n :: σ)) := by
  refine call_of T_trial_Plan_1_1 e_trial_Plan_1_1 rfl ?_
  have a1 := pv_at (s := s) (g := Gr s) hx
  have a2 := pv_at (s := s) (g := Gr s) hw
  have lx : (x : Int) < 10 := by omega
  have lw : (w : Int) < 10 := by omega
  have a3 := @pv_len s (Gr s)
  have k1 := @sg0 σ (plF s σ.length v cs n) pre
  have hne : ¬ (pre.length + (σ.length + 1) = σ.length) := by omega
  simp [-List.length_flatMap, -List.map_take, e_trial_Plan_1_1_r0, e_trial_Plan_1_1_r1, k1, hne, lx, lw, pf0, a1, a2, qN]
/-- The wells that stand in now. -/
def Now (l : List Nat) (cs : List D) : Prop := cs.take l.length = l.map fun n : Nat => D.int .i64 n
theorem now_len {l : List Nat} {cs : List D} (h : Now l cs) : l.length ≤ cs.length := by
  have := congrArg List.length h
  simp only [List.length_take, List.length_map] at this
  omega
theorem now_at {l : List Nat} {cs : List D} (h : Now l cs) {i x : Nat} (hx : l[i]? = some x) : cs.drop i = .int .i64 x :: cs.drop (i + 1) := by
  have h1 := (List.getElem?_eq_some_iff.1 hx).1
  have h2 := now_len h
  have h3 : cs[i]? = some (.int .i64 x) := by
    have : (cs.take l.length)[i]? = some (.int .i64 x) := by rw [h]; simp [hx]
    rwa [List.getElem?_take_of_lt h1] at this
  exact dropS h3
def puls (s : Surv) (l : List Nat) (w : Nat) : Bool := anyB l fun x => decide (Gr s x = Gr s w)
theorem L_ix {s : Surv} {v w : Nat} {cs : List D} {pre : Stack} {l : List Nat} (hn : Now l cs) (hl : ∀ x ∈ l, x < 10) (hll : l.length ≤ 10) (hw : w < 10) : ∀ (m i : Nat), i + m = l.length →
    WL T [0, 1, 7, 8] false f_slices_IndexFunc_int_l7 [(0, .sl σ.length 1 v 0 l.length 1), (1, .fn i_trial_Plan_1_1 [] [.ref σ.length 0 0 0, .cref [.int .i64 w]]), (7, .int .i64 l.length), (8, .int .i64 i)] ([] :: (pre ++ plF s σ.length v cs l.length :: σ))
      (fun x e σ' => σ' = [] :: (pre ++ plF s σ.length v cs l.length :: σ) ∧ if puls s (l.drop i) w then x = .ret ∧ ∃ k : Nat, get e 4 = .int .i64 k else x = .exit 0)
  | 0, i, hi => by
    refine WL_step e_slices_IndexFunc_int_l7 ?_
    have h1 : ¬ i < l.length := by omega
    have h2 : l.drop i = [] := List.drop_eq_nil_of_le (by omega)
    simp [-List.length_flatMap, -List.map_take, e_slices_IndexFunc_int_r0, e_slices_IndexFunc_int_r1, e_slices_IndexFunc_int_r2, e_slices_IndexFunc_int_r3, e_slices_IndexFunc_int_r4, e_slices_IndexFunc_int_r5, e_slices_IndexFunc_int_r6, e_slices_IndexFunc_int_r8, h1, h2, puls, anyB]
  | m + 1, i, hi => by
    refine WL_step e_slices_IndexFunc_int_l7 ?_
    have h1 : i < l.length := by omega
    obtain ⟨x, hx⟩ : ∃ x, l[i]? = some x := ⟨_, List.getElem?_eq_getElem h1⟩
    have h2 := now_at hn hx
    have h4 := wnext h1 (by omega)
    have ih := L_ix (s := s) (v := v) (pre := pre) hn hl hll hw m (i + 1) (by omega)
    have hc := C_pl11 (σ := σ) (s := s) (v := v) (n := l.length) (cs := cs) (pre := [] :: pre) (hl x (List.mem_of_getElem? hx)) hw
    simp only [List.cons_append] at hc
    have k1 := @sg0 σ (plF s σ.length v cs l.length) pre
    have hne : ¬ (pre.length + (σ.length + 1) = σ.length) := by omega
    have e1 : puls s (l.drop i) w = (decide (Gr s x = Gr s w) || puls s (l.drop (i + 1)) w) := by rw [dropS hx]; rfl
    rw [e1]
    by_cases hq : Gr s x = Gr s w
    · rw [decide_eq_true hq] at hc ⊢
      simp [-List.length_flatMap, -List.map_take, e_slices_IndexFunc_int_r0, e_slices_IndexFunc_int_r1, e_slices_IndexFunc_int_r2, e_slices_IndexFunc_int_r3, e_slices_IndexFunc_int_r4, e_slices_IndexFunc_int_r5, e_slices_IndexFunc_int_r6, e_slices_IndexFunc_int_r8, h1, h4, k1, hne, pf1, h2, hc]
      exact ⟨i, rfl⟩
    · rw [decide_eq_false hq] at hc ⊢
      simp [-List.length_flatMap, -List.map_take, e_slices_IndexFunc_int_r0, e_slices_IndexFunc_int_r1, e_slices_IndexFunc_int_r2, e_slices_IndexFunc_int_r3, e_slices_IndexFunc_int_r4, e_slices_IndexFunc_int_r5, e_slices_IndexFunc_int_r6, e_slices_IndexFunc_int_r8, h1, h4, k1, hne, pf1, h2, hc]
      refine WL.to ih (by simp) rfl ?_
      exact fun x e σ' hh => hh
theorem C_ix {s : Surv} {v w : Nat} {cs : List D} {pre : Stack} {l : List Nat} (hn : Now l cs) (hl : ∀ x ∈ l, x < 10) (hll : l.length ≤ 10) (hw : w < 10) :
    ∃ r : Int, decide (0 ≤ r) = puls s l w ∧ lim T (.call false i_slices_IndexFunc_int [.sl σ.length 1 v 0 l.length 1, .fn i_trial_Plan_1_1 [] [.ref σ.length 0 0 0, .cref [.int .i64 w]]] (pre ++ plF s σ.length v cs l.length :: σ)) = some (.val (.int .i64 r) (pre ++ plF s σ.length v cs l.length :: σ)) := by
  cases hp : puls s l w
  · refine ⟨-1, by decide, ?_⟩
    refine call_of T_slices_IndexFunc_int e_slices_IndexFunc_int rfl ?_
    simp [-List.length_flatMap, -List.map_take, e_slices_IndexFunc_int_r0, e_slices_IndexFunc_int_r1, e_slices_IndexFunc_int_r2, e_slices_IndexFunc_int_r3, e_slices_IndexFunc_int_r4, e_slices_IndexFunc_int_r5, e_slices_IndexFunc_int_r6, e_slices_IndexFunc_int_r8]
    refine WL.to (L_ix (σ := σ) (s := s) (v := v) (pre := pre) hn hl hll hw l.length 0 (by omega)) (by simp) rfl ?_
    rintro x e σ' ⟨rfl, hh⟩
    rw [List.drop_zero, hp] at hh
    simp only [Bool.false_eq_true, if_false] at hh
    subst hh
    simp [-List.length_flatMap, -List.map_take, e_slices_IndexFunc_int_r0, e_slices_IndexFunc_int_r1, e_slices_IndexFunc_int_r2, e_slices_IndexFunc_int_r3, e_slices_IndexFunc_int_r4, e_slices_IndexFunc_int_r5, e_slices_IndexFunc_int_r6, e_slices_IndexFunc_int_r8]
  · obtain ⟨x, e, σ', h1, h2, h3⟩ := L_ix (σ := σ) (s := s) (v := v) (pre := pre) hn hl hll hw l.length 0 (by omega)
    rw [List.drop_zero, hp] at h3
    simp only [if_true] at h3
    obtain ⟨h3, k, h4⟩ := h3
    refine ⟨k, by simp, ?_⟩
    refine call_of T_slices_IndexFunc_int e_slices_IndexFunc_int rfl ?_
    simp [-List.length_flatMap, -List.map_take, e_slices_IndexFunc_int_r0, e_slices_IndexFunc_int_r1, e_slices_IndexFunc_int_r2, e_slices_IndexFunc_int_r3, e_slices_IndexFunc_int_r4, e_slices_IndexFunc_int_r5, e_slices_IndexFunc_int_r6, e_slices_IndexFunc_int_r8]
    have hW : WL T [0, 1, 7, 8] false f_slices_IndexFunc_int_l7 [(0, .sl σ.length 1 v 0 l.length 1), (1, .fn i_trial_Plan_1_1 [] [.ref σ.length 0 0 0, .cref [.int .i64 w]]), (7, .int .i64 l.length), (8, .int .i64 (0 : Nat))] ([] :: (pre ++ plF s σ.length v cs l.length :: σ))
      (fun x e σ' => σ' = [] :: (pre ++ plF s σ.length v cs l.length :: σ) ∧ x = .ret ∧ get e 4 = .int .i64 k) := ⟨x, e, σ', h1, h2, h3, h4⟩
    refine WL.to hW (by simp) rfl ?_
    rintro x e σ' ⟨rfl, rfl, g4⟩
    simp [g4]
theorem C_pl1 {s : Surv} {v w : Nat} {cs : List D} {pre : Stack} {l : List Nat} (hn : Now l cs) (hl : ∀ x ∈ l, x < 10) (hll : l.length ≤ 10) (hw : w < 10) :
    lim T (.call false i_trial_Plan_1 [.int .i64 w, .ref σ.length 2 0 0, .ref σ.length 0 0 0] (pre ++ plF s σ.length v cs l.length :: σ)) = some (.val (.bool (puls s l w)) (pre ++ plF s σ.length v cs l.length :: σ)) := by
  refine call_of T_trial_Plan_1 e_trial_Plan_1 rfl ?_
  obtain ⟨r, h1, h2⟩ := C_ix (σ := σ) (s := s) (v := v) (pre := [] :: [] :: pre) hn hl hll hw
  simp only [List.cons_append] at h2
  have hc : lim T (.call false i_slices_ContainsFunc_int [.sl σ.length 1 v 0 l.length 1, .fn i_trial_Plan_1_1 [] [.ref σ.length 0 0 0, .cref [.int .i64 w]]] ([] :: (pre ++ plF s σ.length v cs l.length :: σ))) = some (.val (.bool (puls s l w)) ([] :: (pre ++ plF s σ.length v cs l.length :: σ))) := by
    refine call_of T_slices_ContainsFunc_int e_slices_ContainsFunc_int rfl ?_
    simp [-List.length_flatMap, -List.map_take, e_slices_ContainsFunc_int_r0, e_slices_ContainsFunc_int_r1, h2, h1]
  have k1 := @sg0 σ (plF s σ.length v cs l.length) pre
  have hne : ¬ (pre.length + (σ.length + 1) = σ.length) := by omega
  simp [-List.length_flatMap, -List.map_take, e_trial_Plan_1_r0, e_trial_Plan_1_r1, k1, hne, pf2, hc]
/-- May two wells stay as they are? -/
def okP (s : Surv) (l : List Nat) (a b : Nat) : Bool := !decide (relOf s a b = 1) || (puls s l a || puls s l b)
def okB (s : Surv) (l : List Nat) (a : Nat) : Nat → Nat → Bool
  | 0, _ => true
  | m + 1, b => okP s l a b && okB s l a m (b + 1)
def decF (s : Surv) (l : List Nat) : Nat → Nat → Bool
  | 0, _ => true
  | m + 1, a => okB s l a a 0 && decF s l m (a + 1)
def decS (s : Surv) (l : List Nat) : Bool := decF s l s.w.toNat 0
theorem L_d2 {s : Surv} (h : Sv s) {v : Nat} {cs : List D} {pre : Stack} {l : List Nat} (hn : Now l cs) (hl : ∀ x ∈ l, x < 10) (hll : l.length ≤ 10) {a : Nat} (ha : a < 10) : ∀ (m b : Nat), b + m = a →
    WL T [1, 2, 4, 7, 8, 11, 12] false f_trial_Plan_2_l10 [(1, .ref σ.length 0 0 0), (2, .ref σ.length 3 0 0), (4, .int .i64 a), (7, .int .i64 s.w), (8, .int .i64 a), (11, .int .i64 a), (12, .int .i64 b)] ([] :: (pre ++ plF s σ.length v cs l.length :: σ))
      (fun x e σ' => σ' = [] :: (pre ++ plF s σ.length v cs l.length :: σ) ∧ if okB s l a m b then x = .exit 2 ∧ get e 1 = .ref σ.length 0 0 0 ∧ get e 2 = .ref σ.length 3 0 0 ∧ get e 7 = .int .i64 s.w ∧ get e 8 = .int .i64 a else x = .ret ∧ get e 3 = .bool false)
  | 0, b, hb => by
    refine WL_step e_trial_Plan_2_l10 ?_
    have h1 : ¬ b < a := by omega
    simp [-List.length_flatMap, -List.map_take, e_trial_Plan_2_r0, e_trial_Plan_2_r1, e_trial_Plan_2_r2, e_trial_Plan_2_r3, e_trial_Plan_2_r4, e_trial_Plan_2_r5, e_trial_Plan_2_r6, e_trial_Plan_2_r7, e_trial_Plan_2_r8, e_trial_Plan_2_r9, e_trial_Plan_2_r11, e_trial_Plan_2_r13, h1, okB]
  | m + 1, b, hb => by
    refine WL_step e_trial_Plan_2_l10 ?_
    have h1 : b < a := by omega
    have w1 := w64 (n := (b : Int) + 1) (by omega)
    have ih := L_d2 h (v := v) (pre := pre) hn hl hll ha m (b + 1) (by omega)
    have hR := fun σ => @C_relation σ s h a b ha (by omega)
    have hA := C_pl1 (σ := σ) (s := s) (v := v) (pre := [] :: pre) hn hl hll ha
    have hB := C_pl1 (σ := σ) (s := s) (v := v) (pre := [] :: pre) hn hl hll (w := b) (by omega)
    simp only [List.cons_append] at hA hB
    have k1 := @sg0 σ (plF s σ.length v cs l.length) pre
    have hne : ¬ (pre.length + (σ.length + 1) = σ.length) := by omega
    have t0 : (pv s (Gr s)).take 13 = pv s (Gr s) := List.take_of_length_le (by rw [pv_len]; exact Nat.le_refl _)
    have a3 := @pv_len s (Gr s)
    have e1 : okB s l a (m + 1) b = ((!decide (relOf s a b = 1) || (puls s l a || puls s l b)) && okB s l a m (b + 1)) := rfl
    rw [e1]
    by_cases c1 : relOf s a b = 1
    rotate_left
    · rw [decide_eq_false c1]
      simp [-List.length_flatMap, -List.map_take, e_trial_Plan_2_r0, e_trial_Plan_2_r1, e_trial_Plan_2_r2, e_trial_Plan_2_r3, e_trial_Plan_2_r4, e_trial_Plan_2_r5, e_trial_Plan_2_r6, e_trial_Plan_2_r7, e_trial_Plan_2_r8, e_trial_Plan_2_r9, e_trial_Plan_2_r11, e_trial_Plan_2_r13, h1, w1, hR, k1, hne, pf0, t0, a3, c1]
      exact WL.to ih (by simp) rfl fun x e σ' hh => hh
    rw [decide_eq_true c1]
    cases c2 : puls s l a
    rotate_left
    · rw [c2] at hA
      simp [-List.length_flatMap, -List.map_take, e_trial_Plan_2_r0, e_trial_Plan_2_r1, e_trial_Plan_2_r2, e_trial_Plan_2_r3, e_trial_Plan_2_r4, e_trial_Plan_2_r5, e_trial_Plan_2_r6, e_trial_Plan_2_r7, e_trial_Plan_2_r8, e_trial_Plan_2_r9, e_trial_Plan_2_r11, e_trial_Plan_2_r13, h1, w1, hR, k1, hne, pf0, pf3, t0, a3, c1, hA]
      exact WL.to ih (by simp) rfl fun x e σ' hh => hh
    cases c3 : puls s l b
    rotate_left
    · rw [c2] at hA
      rw [c3] at hB
      simp [-List.length_flatMap, -List.map_take, e_trial_Plan_2_r0, e_trial_Plan_2_r1, e_trial_Plan_2_r2, e_trial_Plan_2_r3, e_trial_Plan_2_r4, e_trial_Plan_2_r5, e_trial_Plan_2_r6, e_trial_Plan_2_r7, e_trial_Plan_2_r8, e_trial_Plan_2_r9, e_trial_Plan_2_r11, e_trial_Plan_2_r13, h1, w1, hR, k1, hne, pf0, pf3, t0, a3, c1, hA, hB]
      exact WL.to ih (by simp) rfl fun x e σ' hh => hh
    · rw [c2] at hA
      rw [c3] at hB
      simp [-List.length_flatMap, -List.map_take, e_trial_Plan_2_r0, e_trial_Plan_2_r1, e_trial_Plan_2_r2, e_trial_Plan_2_r3, e_trial_Plan_2_r4, e_trial_Plan_2_r5, e_trial_Plan_2_r6, e_trial_Plan_2_r7, e_trial_Plan_2_r8, e_trial_Plan_2_r9, e_trial_Plan_2_r11, e_trial_Plan_2_r13, h1, w1, hR, k1, hne, pf0, pf3, t0, a3, c1, hA, hB]
theorem L_d1 {s : Surv} (h : Sv s) {W : Nat} (hW : s.w = W) {v : Nat} {cs : List D} {pre : Stack} {l : List Nat} (hn : Now l cs) (hl : ∀ x ∈ l, x < 10) (hll : l.length ≤ 10) : ∀ (m a : Nat), a + m = W →
    WL T [1, 2, 7, 8] false f_trial_Plan_2_l12 [(1, .ref σ.length 0 0 0), (2, .ref σ.length 3 0 0), (7, .int .i64 s.w), (8, .int .i64 a)] ([] :: (pre ++ plF s σ.length v cs l.length :: σ))
      (fun x e σ' => σ' = [] :: (pre ++ plF s σ.length v cs l.length :: σ) ∧ if decF s l m a then x = .exit 0 else x = .ret ∧ get e 3 = .bool false)
  | 0, a, ha => by
    refine WL_step e_trial_Plan_2_l12 ?_
    have h1 : ¬ (a : Int) < s.w := by omega
    simp [-List.length_flatMap, -List.map_take, e_trial_Plan_2_r0, e_trial_Plan_2_r1, e_trial_Plan_2_r2, e_trial_Plan_2_r3, e_trial_Plan_2_r4, e_trial_Plan_2_r5, e_trial_Plan_2_r6, e_trial_Plan_2_r7, e_trial_Plan_2_r8, e_trial_Plan_2_r9, e_trial_Plan_2_r11, e_trial_Plan_2_r13, h1, decF]
  | m + 1, a, ha => by
    refine WL_step e_trial_Plan_2_l12 ?_
    have h1 : (a : Int) < s.w := by omega
    have hw := h.w
    have w1 := w64 (n := (a : Int) + 1) (by omega)
    have ih := L_d1 h hW (v := v) (pre := pre) hn hl hll m (a + 1) (by omega)
    have e1 : decF s l (m + 1) a = (okB s l a a 0 && decF s l m (a + 1)) := rfl
    rw [e1]
    simp [-List.length_flatMap, -List.map_take, e_trial_Plan_2_r0, e_trial_Plan_2_r1, e_trial_Plan_2_r2, e_trial_Plan_2_r3, e_trial_Plan_2_r4, e_trial_Plan_2_r5, e_trial_Plan_2_r6, e_trial_Plan_2_r7, e_trial_Plan_2_r8, e_trial_Plan_2_r9, e_trial_Plan_2_r11, e_trial_Plan_2_r13, h1]
    refine WL.to (L_d2 (σ := σ) h (v := v) (pre := pre) hn hl hll (a := a) (by omega) a 0 (by omega)) (by simp) rfl ?_
    rintro x e σ' ⟨rfl, hh⟩
    cases hq : okB s l a a 0
    · rw [hq] at hh
      simp only [Bool.false_eq_true, if_false] at hh
      obtain ⟨rfl, g3⟩ := hh
      simp [g3]
    · rw [hq] at hh
      simp only [if_true] at hh
      obtain ⟨rfl, g1, g2, g7, g8⟩ := hh
      simp [-List.length_flatMap, -List.map_take, e_trial_Plan_2_r11, g1, g2, g7, g8, w1]
      exact WL.to ih (by simp) rfl fun x e σ' hh => hh
theorem C_pl2 {s : Surv} (h : Sv s) {v : Nat} {cs : List D} {pre : Stack} {l : List Nat} (hn : Now l cs) (hl : ∀ x ∈ l, x < 10) (hll : l.length ≤ 10) :
    lim T (.call false i_trial_Plan_2 [.cref s.enc, .ref σ.length 0 0 0, .ref σ.length 3 0 0] (pre ++ plF s σ.length v cs l.length :: σ)) = some (.val (.bool (decS s l)) (pre ++ plF s σ.length v cs l.length :: σ)) := by
  refine call_of T_trial_Plan_2 e_trial_Plan_2 rfl ?_
  have hw := h.w
  obtain ⟨W, hW⟩ : ∃ W : Nat, s.w = W := ⟨s.w.toNat, by omega⟩
  simp [-List.length_flatMap, -List.map_take, e_trial_Plan_2_r0, e_trial_Plan_2_r1, e_trial_Plan_2_r2, e_trial_Plan_2_r3, e_trial_Plan_2_r4, e_trial_Plan_2_r5, e_trial_Plan_2_r6, e_trial_Plan_2_r7, e_trial_Plan_2_r8, e_trial_Plan_2_r9, e_trial_Plan_2_r11, e_trial_Plan_2_r13]
  refine WL.to (L_d1 (σ := σ) h hW (v := v) (pre := pre) hn hl hll W 0 (by omega)) (by simp) rfl ?_
  rintro x e σ' ⟨rfl, hh⟩
  have e0 : decF s l W 0 = decS s l := by unfold decS; rw [hW]; rfl
  rw [e0] at hh
  cases hq : decS s l
  · rw [hq] at hh
    simp only [Bool.false_eq_true, if_false] at hh
    obtain ⟨rfl, g3⟩ := hh
    simp [g3]
  · rw [hq] at hh
    simp only [if_true] at hh
    subst hh
    simp [-List.length_flatMap, -List.map_take, e_trial_Plan_2_r0, e_trial_Plan_2_r1, e_trial_Plan_2_r2, e_trial_Plan_2_r3, e_trial_Plan_2_r4, e_trial_Plan_2_r5, e_trial_Plan_2_r6, e_trial_Plan_2_r7, e_trial_Plan_2_r8, e_trial_Plan_2_r9, e_trial_Plan_2_r11, e_trial_Plan_2_r13]
end Go.Proofs.Ytcjjdaifpboaaaa
