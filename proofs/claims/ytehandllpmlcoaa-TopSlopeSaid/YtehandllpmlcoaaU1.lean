/-
  Contracts.
-/
import Derived.Test.YtehandllpmlcoaaR19
import Derived.Test.YtehandllpmlcoaaTrialPlain
set_option linter.unusedVariables false
set_option linter.unusedSimpArgs false
namespace Go.Proofs.Ytehandllpmlcoaa
open Go Go.Abs Go.Trial
open Go Go.Abs Go.Trial
variable {σ : Stack}

theorem C_within {a b c : Int} : lim T (.call false i_trial_within [.int .i64 a, .int .i64 b, .int .i64 c] σ) = some (.val (.bool (inn a b c)) σ) := by
  refine call_of T_trial_within e_trial_within rfl ?_
  by_cases h : b ≤ a <;> simp [-List.length_flatMap, -List.map_take, eF, h, inn]
theorem C_has {a b n : Int} : lim T (.call false i_trial_Range_has [.agg [.int .i64 a, .int .i64 b], .int .i64 n] σ) = some (.val (.bool (inn n a b)) σ) := by
  refine call_of T_trial_Range_has e_trial_Range_has rfl ?_
  simp [-List.length_flatMap, -List.map_take, eF, C_within]
theorem C_right {a b lo hi : Int} : lim T (.call false i_trial_Range_right [.agg [.int .i64 a, .int .i64 b], .int .i64 lo, .int .i64 hi] σ) = some (.val (.bool (Rg.right ⟨a, b⟩ lo hi)) σ) := by
  refine call_of T_trial_Range_right e_trial_Range_right rfl ?_
  by_cases hc1 : lo ≤ a
  rotate_left
  · simp [-List.length_flatMap, -List.map_take, eF, Rg.right, hc1]
  by_cases hc2 : a ≤ b
  rotate_left
  · simp [-List.length_flatMap, -List.map_take, eF, Rg.right, hc1, hc2]
  simp [-List.length_flatMap, -List.map_take, eF, Rg.right, hc1, hc2]
theorem C_drops {a b : Int} : lim T (.call false i_trial_Range_drops [.agg [.int .i64 a, .int .i64 b]] σ) = some (.val (.bool (Rg.drops ⟨a, b⟩)) σ) := by
  refine call_of T_trial_Range_drops e_trial_Range_drops rfl ?_
  simp [-List.length_flatMap, -List.map_take, eF, C_right, Rg.drops]
theorem C_less {a b n : Int} (h1 : -2000000000 ≤ a ∧ a ≤ 2000000000) (h2 : -2000000000 ≤ b ∧ b ≤ 2000000000) (h3 : -2000000000 ≤ n ∧ n ≤ 2000000000) :
    lim T (.call false i_trial_Range_less [.agg [.int .i64 a, .int .i64 b], .int .i64 n] σ) = some (.val (.agg [.int .i64 (a - n), .int .i64 (b - n)]) σ) := by
  refine call_of T_trial_Range_less e_trial_Range_less rfl ?_
  have w1 := w64 (n := a - n) (by omega)
  have w2 := w64 (n := b - n) (by omega)
  simp [-List.length_flatMap, -List.map_take, eF, w1, w2]
theorem C_span {a b c d : Int} : lim T (.call false i_trial_span [.agg [.int .i64 a, .int .i64 b], .agg [.int .i64 c, .int .i64 d]] σ) = some (.val (.agg [.int .i64 (min a c), .int .i64 (max b d)]) σ) := by
  refine call_of T_trial_span e_trial_span rfl ?_
  simp [-List.length_flatMap, -List.map_take, eF]
/-- A curve and a flow that may stand in drawdowns; small ones or any. -/
structure Dr (a b c q : Int) : Prop where
  q : 0 ≤ q ∧ q ≤ 1000
  a : -2100000000 ≤ a ∧ a ≤ 2100000000
  b : 0 ≤ b ∧ b ≤ 10000
  c : 0 ≤ c ∧ c ≤ 1000
theorem Dr.bd {a b c q : Int} (h : Dr a b c q) : (0 ≤ b * q ∧ b * q ≤ 10000000) ∧ (0 ≤ c * q ∧ c * q ≤ 1000000) ∧ (0 ≤ c * q * q ∧ c * q * q ≤ 1000000000) := by
  obtain ⟨h1, h2, h3, _⟩ := drop_bound (a := 0) (by omega) h.b h.c h.q
  exact ⟨h1, h2, h3⟩
theorem C_drop {a b c q : Int} (h : Dr a b c q) : lim T (.call false i_trial_Curve_drop [.agg [.int .i64 a, .int .i64 b, .int .i64 c], .int .i64 q] σ) = some (.val (.int .i64 (Cv.drop ⟨a, b, c⟩ q)) σ) := by
  refine call_of T_trial_Curve_drop e_trial_Curve_drop rfl ?_
  obtain ⟨h1, h2, h3⟩ := h.bd
  have h4 := h.a
  have w1 := w64 (n := b * q) (by omega)
  have w2 := w64 (n := a + b * q) (by omega)
  have w3 := w64 (n := c * q) (by omega)
  have w4 := w64 (n := c * q * q) (by omega)
  have w5 := w64 (n := a + b * q + c * q * q) (by omega)
  simp [-List.length_flatMap, -List.map_take, eF, w1, w2, w3, w4, w5, Cv.drop]
theorem L_meet {l : List Rg} (hl : l.length ≤ 100) : ∀ (m i : Nat) (r : Rg), i + m = l.length →
    WL T [2, 3, 10, 11, 12] false f_trial_meet_l7 [(2, .own 0 [.int .i64 0, .int .i64 0]), (3, .own 0 r.enc), (10, .lst l.length (l.flatMap Rg.enc)), (11, .int .i64 l.length), (12, .int .i64 i)] σ
      (fun x e σ' => σ' = σ ∧ x = .exit 0 ∧ get e 2 = .own 0 [.int .i64 0, .int .i64 0] ∧ get e 3 = .own 0 ((l.drop i).foldl meet r).enc)
  | 0, i, r, hi => by
    refine WL_step e_trial_meet_l7 ?_
    have h1 : ¬ i < l.length := by omega
    have h2 : l.drop i = [] := List.drop_eq_nil_of_le (by omega)
    simp [-List.length_flatMap, -List.map_take, eF, h1, h2]
  | m + 1, i, r, hi => by
    refine WL_step e_trial_meet_l7 ?_
    have h1 : i < l.length := by omega
    obtain ⟨x, hx⟩ : ∃ x, l[i]? = some x := ⟨_, List.getElem?_eq_getElem h1⟩
    have h2 := flat_at (f := Rg.enc) (w := 2) (fun _ => rfl) hx
    have h4 := wnext h1 (by omega)
    have h5 : l.drop i = x :: l.drop (i + 1) := by
      rw [List.drop_eq_getElem_cons h1]
      rw [List.getElem?_eq_getElem h1] at hx; cases hx; rfl
    have ih := L_meet hl m (i + 1) (meet r x) (by omega)
    simp [-List.length_flatMap, -List.map_take, eF, h1, h2, h4]
    refine WL.to ih (by simp [meet]) rfl ?_
    rintro x' e σ' ⟨rfl, rfl, g1, g2⟩
    rw [h5]
    simp [g1, g2]
theorem C_meet {x : Rg} {l : List Rg} (hl : l.length ≤ 50) : lim T (.call false i_trial_meet [.lst (l.length + 1) (x.enc ++ l.flatMap Rg.enc)] σ) = some (.val (.agg (l.foldl meet x).enc) σ) := by
  refine call_of T_trial_meet e_trial_meet rfl ?_
  have h1 : (1 : Int) ≤ (l.length : Int) + 1 := by omega
  have h2 := k_self (f := Rg.enc) (w := 2) (fun _ => rfl) l
  simp [-List.length_flatMap, -List.map_take, eF, h1, h2]
  refine WL.to (L_meet (σ := [] :: σ) (l := l) (by omega) l.length 0 x (by omega)) (by simp) rfl ?_
  rintro x' e σ' ⟨rfl, rfl, g1, g2⟩
  simp [-List.length_flatMap, -List.map_take, eF, g1, g2]

theorem L_steps {t : Test} (hl : t.st.length ≤ 100000) : ∀ (m i : Nat), i + m = t.st.length →
    WL T [46, 47, 48] false f_trial_CheckTest_l11 [(46, .lst t.st.length (t.st.flatMap Step.enc)), (47, .int .i64 t.st.length), (48, .int .i64 i)] σ
      (fun x e σ' => σ' = σ ∧ if allB (t.st.drop i) Step.ok then x = .exit 0 else x = .ret ∧ get e 2 = .int .i64 1)
  | 0, i, hi => by
    refine WL_step e_trial_CheckTest_l11 ?_
    have h1 : ¬ i < t.st.length := by omega
    have h2 : t.st.drop i = [] := List.drop_eq_nil_of_le (by omega)
    simp [-List.length_flatMap, -List.map_take, eF, h1, h2, allB]
  | m + 1, i, hi => by
    refine WL_step e_trial_CheckTest_l11 ?_
    have h1 : i < t.st.length := by omega
    obtain ⟨x, hx⟩ : ∃ x, t.st[i]? = some x := ⟨_, List.getElem?_eq_getElem h1⟩
    have h2 := flat_at (f := Step.enc) (w := 3) (fun _ => rfl) hx
    have h4 := wnext h1 (by omega)
    have h5 : t.st.drop i = x :: t.st.drop (i + 1) := by
      rw [List.drop_eq_getElem_cons h1]
      rw [List.getElem?_eq_getElem h1] at hx; cases hx; rfl
    have ih := L_steps hl m (i + 1) (by omega)
    have h6 : allB (t.st.drop i) Step.ok = ((inn x.q 0 1000 && x.d.drops) && allB (t.st.drop (i + 1)) Step.ok) := by rw [h5]; rfl
    rw [h6]
    cases hc1 : inn x.q 0 1000
    · simp [-List.length_flatMap, -List.map_take, eF, h1, h2, h4, C_within, hc1, Step.ok]
    · cases hc2 : x.d.drops
      · simp [-List.length_flatMap, -List.map_take, eF, h1, h2, h4, C_within, C_drops, hc1, hc2, Step.ok]
      · simp [-List.length_flatMap, -List.map_take, eF, h1, h2, h4, C_within, C_drops, hc1, hc2, Step.ok]
        exact WL.to ih (by simp) rfl fun x e σ' hh => hh
theorem right_iff {r : Rg} {lo hi : Int} : r.right lo hi = true ↔ lo ≤ r.lo ∧ r.lo ≤ r.hi ∧ r.hi ≤ hi := by simp [Rg.right]
theorem C_check {t : Test} (hl : t.st.length ≤ 100000) : lim T (.call false i_trial_CheckTest [.agg [.int .i64 t.a.lo, .int .i64 t.a.hi, .int .i64 t.b.lo, .int .i64 t.b.hi, .int .i64 t.c.lo, .int .i64 t.c.hi, .lst t.st.length (t.st.flatMap Step.enc)]] σ) = some (.val (.int .i64 (fault t)) σ) := by
  refine call_of T_trial_CheckTest e_trial_CheckTest rfl ?_
  unfold fault boxOk
  by_cases h0 : 12 < t.st.length
  · have h0' : (12 : Int) < t.st.length := by omega
    simp [-List.length_flatMap, -List.map_take, eF, h0, h0']
  have h0' : ¬ (12 : Int) < t.st.length := by omega
  cases ha : t.a.right 0 100000
  · simp [-List.length_flatMap, -List.map_take, eF, h0, h0', C_right, ha]
  cases hb : t.b.right 0 10000
  · simp [-List.length_flatMap, -List.map_take, eF, h0, h0', C_right, ha, hb]
  have hb' := right_iff.1 hb
  have w1 := w64 (n := t.b.hi - t.b.lo) (by omega)
  cases hc : t.c.right 0 1000
  · simp [-List.length_flatMap, -List.map_take, eF, h0, h0', C_right, ha, hb, hc]
  have hc' := right_iff.1 hc
  have w2 := w64 (n := t.c.hi - t.c.lo) (by omega)
  by_cases h1 : t.b.hi - t.b.lo < 40
  rotate_left
  · simp [-List.length_flatMap, -List.map_take, eF, h0, h0', C_right, ha, hb, hc, w1, w2, h1, show 40 ≤ t.b.hi - t.b.lo by omega]
  by_cases h2 : t.c.hi - t.c.lo < 40
  rotate_left
  · simp [-List.length_flatMap, -List.map_take, eF, h0, h0', C_right, ha, hb, hc, w1, w2, h1, h2, show ¬ 40 ≤ t.b.hi - t.b.lo by omega, show 40 ≤ t.c.hi - t.c.lo by omega]
  simp [-List.length_flatMap, -List.map_take, eF, h0, h0', C_right, ha, hb, hc, w1, w2, h1, h2, show ¬ 40 ≤ t.b.hi - t.b.lo by omega, show ¬ 40 ≤ t.c.hi - t.c.lo by omega]
  refine WL.to (L_steps (σ := [] :: σ) hl t.st.length 0 (by omega)) (by simp) rfl ?_
  rintro x e σ' ⟨rfl, hx⟩
  simp only [List.drop_zero] at hx
  cases hA : allB t.st Step.ok
  · rw [hA] at hx
    simp only [Bool.false_eq_true, if_false] at hx
    obtain ⟨rfl, g⟩ := hx
    simp [-List.length_flatMap, -List.map_take, eF, g, h0]
  · rw [hA] at hx
    simp only [if_true] at hx
    subst hx
    simp [-List.length_flatMap, -List.map_take, eF, h0, h1, h2]

/-- Does a curve agree? -/
def agB (t : Test) (c : Cv) : Bool := inn c.a t.a.lo t.a.hi && (inn c.b t.b.lo t.b.hi && inn c.c t.c.lo t.c.hi)
def agS (c : Cv) (s : Step) : Bool := inn (c.drop s.q) s.d.lo s.d.hi
theorem ag_dr {t : Test} (h : Tv t) {a b c : Int} (ha : agB t ⟨a, b, c⟩ = true) {s : Step} (hs : s ∈ t.st) : Dr a b c s.q := by
  simp only [agB, Bool.and_eq_true, inn_iff] at ha
  have h1 := h.a; have h2 := h.b; have h3 := h.c; have h4 := h.s s hs
  exact ⟨h4.1, by omega, by omega, by omega⟩
theorem L_agrees {t : Test} (h : Tv t) {a b c : Int} (ha : agB t ⟨a, b, c⟩ = true) : ∀ (m i : Nat), i + m = t.st.length →
    WL T [3, 35, 36, 37] false f_trial_Agrees_l9 [(3, .cref [.int .i64 a, .int .i64 b, .int .i64 c]), (35, .lst t.st.length (t.st.flatMap Step.enc)), (36, .int .i64 t.st.length), (37, .int .i64 i)] σ
      (fun x e σ' => σ' = σ ∧ if allB (t.st.drop i) (agS ⟨a, b, c⟩) then x = .exit 0 else x = .ret ∧ get e 4 = .bool false)
  | 0, i, hi => by
    refine WL_step e_trial_Agrees_l9 ?_
    have h1 : ¬ i < t.st.length := by omega
    have h2 : t.st.drop i = [] := List.drop_eq_nil_of_le (by omega)
    simp [-List.length_flatMap, -List.map_take, eF, h1, h2, allB]
  | m + 1, i, hi => by
    refine WL_step e_trial_Agrees_l9 ?_
    have h1 : i < t.st.length := by omega
    obtain ⟨x, hx⟩ : ∃ x, t.st[i]? = some x := ⟨_, List.getElem?_eq_getElem h1⟩
    have h2 := flat_at (f := Step.enc) (w := 3) (fun _ => rfl) hx
    have hn := h.n
    have h4 := wnext h1 (by omega)
    have h5 : t.st.drop i = x :: t.st.drop (i + 1) := by
      rw [List.drop_eq_getElem_cons h1]
      rw [List.getElem?_eq_getElem h1] at hx; cases hx; rfl
    have ih := L_agrees h ha m (i + 1) (by omega)
    have hd := fun σ => @C_drop σ a b c x.q (ag_dr h ha (List.mem_of_getElem? hx))
    have h6 : allB (t.st.drop i) (agS ⟨a, b, c⟩) = (inn (Cv.drop ⟨a, b, c⟩ x.q) x.d.lo x.d.hi && allB (t.st.drop (i + 1)) (agS ⟨a, b, c⟩)) := by rw [h5]; rfl
    rw [h6]
    cases hc1 : inn (Cv.drop ⟨a, b, c⟩ x.q) x.d.lo x.d.hi
    · simp [-List.length_flatMap, -List.map_take, eF, h1, h2, h4, hd, C_has, hc1]
    · simp [-List.length_flatMap, -List.map_take, eF, h1, h2, h4, hd, C_has, hc1]
      exact WL.to ih (by simp) rfl fun x e σ' hh => hh
def agT (t : Test) (c : Cv) : Bool := decide (fault t = 0) && (agB t c && allB t.st (agS c))
theorem C_agrees {t : Test} (hl : t.st.length ≤ 100000) {a b c : Int} : lim T (.call false i_trial_Agrees [.agg [.int .i64 t.a.lo, .int .i64 t.a.hi, .int .i64 t.b.lo, .int .i64 t.b.hi, .int .i64 t.c.lo, .int .i64 t.c.hi, .lst t.st.length (t.st.flatMap Step.enc)], .agg [.int .i64 a, .int .i64 b, .int .i64 c]] σ) = some (.val (.bool (agT t ⟨a, b, c⟩)) σ) := by
  refine call_of T_trial_Agrees e_trial_Agrees rfl ?_
  have hf := fun σ => @C_check σ t hl
  by_cases h0 : fault t = 0
  rotate_left
  · simp [-List.length_flatMap, -List.map_take, eF, hf, h0, agT]
  have hv := fault_tv h0
  unfold agT
  cases h1 : inn a t.a.lo t.a.hi
  · simp [-List.length_flatMap, -List.map_take, eF, hf, h0, C_has, h1, agB]
  cases h2 : inn b t.b.lo t.b.hi
  · simp [-List.length_flatMap, -List.map_take, eF, hf, h0, C_has, h1, h2, agB]
  cases h3 : inn c t.c.lo t.c.hi
  · simp [-List.length_flatMap, -List.map_take, eF, hf, h0, C_has, h1, h2, h3, agB]
  have hB : agB t ⟨a, b, c⟩ = true := by simp [agB, h1, h2, h3]
  simp [-List.length_flatMap, -List.map_take, eF, hf, h0, C_has, h1, h2, h3, hB]
  refine WL.to (L_agrees (σ := [] :: σ) hv hB t.st.length 0 (by omega)) (by simp) rfl ?_
  rintro x e σ' ⟨rfl, hx⟩
  simp only [List.drop_zero] at hx
  cases hA : allB t.st (agS ⟨a, b, c⟩)
  · rw [hA] at hx
    simp only [Bool.false_eq_true, if_false] at hx
    obtain ⟨rfl, g⟩ := hx
    simp [-List.length_flatMap, -List.map_take, eF, g]
  · rw [hA] at hx
    simp only [if_true] at hx
    subst hx
    simp [-List.length_flatMap, -List.map_take, eF, h0, hB]
/-- B and C in their ranges. -/
structure BC (t : Test) (b c : Int) : Prop where
  b : t.b.lo ≤ b ∧ b ≤ t.b.hi
  c : t.c.lo ≤ c ∧ c ≤ t.c.hi
theorem BC.dr {t : Test} (h : Tv t) {b c : Int} (hb : BC t b c) {s : Step} (hs : s ∈ t.st) : Dr 0 b c s.q := by
  have h1 := h.b; have h2 := h.c; have h3 := h.s s hs; have h4 := hb.b; have h5 := hb.c
  exact ⟨h3.1, by omega, by omega, by omega⟩
theorem dr0 {b c q : Int} (h : Dr 0 b c q) : 0 ≤ Cv.drop ⟨0, b, c⟩ q ∧ Cv.drop ⟨0, b, c⟩ q ≤ 1010000000 := by
  obtain ⟨h1, h2, h3⟩ := h.bd
  simp only [Cv.drop]
  omega
def cvA (p : Int × Int) : List D := [.int .i64 0, .int .i64 p.1, .int .i64 p.2]
def rmA (t : Test) (p : Int × Int) : List D := [.agg (cvA p), .lst (roomsOf t p.1 p.2).length ((roomsOf t p.1 p.2).flatMap Rg.enc)]

theorem C_room1 {t : Test} (h : Tv t) {b c : Int} (hb : BC t b c) {s : Step} (hs : s ∈ t.st) {bs : List Blk} :
    lim T (.call false i_trial_Test_rooms_1_1 [.agg s.enc, .ref σ.length 0 0 0] ((.cells 0 [.int .i64 0, .int .i64 b, .int .i64 c] :: bs) :: σ)) = some (.val (.agg (rmS b c s).enc) ((.cells 0 [.int .i64 0, .int .i64 b, .int .i64 c] :: bs) :: σ)) := by
  refine call_of T_trial_Test_rooms_1_1 e_trial_Test_rooms_1_1 rfl ?_
  have hd := hb.dr h hs
  have h0 := dr0 hd
  have h1 := h.s s hs
  have hD := fun σ => @C_drop σ 0 b c s.q hd
  have hL := fun σ => @C_less σ s.d.lo s.d.hi (Cv.drop ⟨0, b, c⟩ s.q) (by omega) (by omega) (by omega)
  simp [-List.length_flatMap, -List.map_take, eF, hD, hL, rmS, Rg.less]

theorem L_rooms {t : Test} (h : Tv t) {b c : Int} (hb : BC t b c) {yl yi : Nat} : ∀ (m i : Nat), i + m = t.st.length →
    WL T [0, 1, 3, 4, 5, 6, 7, 38, 39, 40] false f_trial_Test_rooms_1_l12 [(0, .yld yl yi), (1, .cref t.enc), (3, .int .i64 b), (4, .int .i64 c), (5, .ref σ.length 0 0 0), (6, .fn i_trial_Test_rooms_1_1 [] [.ref σ.length 0 0 0]), (7, .sl σ.length 1 i 0 (i + 1) 2), (38, .lst t.st.length (t.st.flatMap Step.enc)), (39, .int .i64 t.st.length), (40, .int .i64 i)]
      ([.cells 0 (cvA (b, c)), .cells i ((t.a :: (t.st.take i).map (rmS b c)).flatMap Rg.enc)] :: σ)
      (fun x e σ' => σ' = [.cells 0 (cvA (b, c)), .cells t.st.length ((roomsOf t b c).flatMap Rg.enc)] :: σ ∧ x = .exit 4 ∧ get e 0 = .yld yl yi ∧ get e 1 = .cref t.enc ∧ get e 3 = .int .i64 b ∧ get e 4 = .int .i64 c ∧ get e 5 = .ref σ.length 0 0 0 ∧ get e 7 = .sl σ.length 1 t.st.length 0 (t.st.length + 1) 2)
  | 0, i, hi => by
    refine WL_step e_trial_Test_rooms_1_l12 ?_
    have h1 : ¬ i < t.st.length := by omega
    have h2 : i = t.st.length := by omega
    subst h2
    simp [-List.length_flatMap, -List.map_take, eF, roomsOf]
  | m + 1, i, hi => by
    refine WL_step e_trial_Test_rooms_1_l12 ?_
    have h1 : i < t.st.length := by omega
    obtain ⟨x, hx⟩ : ∃ x, t.st[i]? = some x := ⟨_, List.getElem?_eq_getElem h1⟩
    have hn := h.n
    have h2 := flat_at (f := Step.enc) (w := 3) (fun _ => rfl) hx
    have h4 := wnext h1 (by omega)
    have h5 : t.st.take (i + 1) = t.st.take i ++ [x] := by
      rw [List.take_add_one, hx]; rfl
    have ih := L_rooms h hb (yl := yl) (yi := yi) m (i + 1) (by omega)
    have hd := fun bs => @C_room1 σ t h b c hb x (List.mem_of_getElem? hx) bs
    have hs := k_self (f := Rg.enc) (w := 2) (fun _ => rfl) (t.a :: (t.st.take i).map (rmS b c))
    have hlen : (t.a :: (t.st.take i).map (rmS b c)).length = i + 1 := by simp; omega
    rw [hlen] at hs
    have w1 : (i + 1 + 1) * 16 ≤ room := by unfold room; omega
    have w2 := flat_len (f := Rg.enc) (w := 2) (fun _ => rfl) (t.a :: (t.st.take i).map (rmS b c))
    rw [hlen] at w2
    rw [h5] at ih
    have e1 : (t.a :: ((t.st.take i ++ [x]).map (rmS b c))).flatMap Rg.enc = (t.a :: (t.st.take i).map (rmS b c)).flatMap Rg.enc ++ (rmS b c x).enc := by simp
    rw [e1] at ih
    generalize (t.a :: (t.st.take i).map (rmS b c)).flatMap Rg.enc = F at *
    simp only [cvA] at ih ⊢
    simp only [Step.enc] at hd
    simp [-List.length_flatMap, -List.map_take, eF, h1, h2, h4, hd, hs, w1, w2]
    refine WL.to ih (by simp) (by simp) ?_
    exact fun x' e σ' hh => hh

def cRow (t : Test) (b c : Int) : List (Int × Int) := (upto c t.c.hi).map fun c => (b, c)
def bRows (t : Test) (b : Int) : List (Int × Int) := (upto b t.b.hi).flatMap fun b => cRow t b t.c.lo
theorem cRow_nil {t : Test} {b c : Int} (h : t.c.hi < c) : cRow t b c = [] := by simp [cRow, upto_nil h]
theorem cRow_cons {t : Test} {b c : Int} (h : c ≤ t.c.hi) : cRow t b c = (b, c) :: cRow t b (c + 1) := by simp [cRow, upto_cons h]
theorem bRows_nil {t : Test} {b : Int} (h : t.b.hi < b) : bRows t b = [] := by simp [bRows, upto_nil h]
theorem bRows_cons {t : Test} {b : Int} (h : b ≤ t.b.hi) : bRows t b = cRow t b t.c.lo ++ bRows t (b + 1) := by simp [bRows, upto_cons h]
/-- Rounds of a loop, one for each element, each with segments of its own ahead of the store, up to one that stops. -/
inductive Rnds (T : Tbl) (n l i : Nat) {α : Type} (f : α → List D) (pre : α → Stack) : List α → Stack → Bool → Stack → Prop
  | nil (σ : Stack) : σ.length = n → Rnds T n l i f pre [] σ true σ
  | go (a : α) (xs : List α) (σ σ1 σ2 : Stack) (b : Bool) : σ.length = n → lim T (.round l i (f a) (pre a ++ σ)) = some (.val (.bool true) (pre a ++ σ1)) → Rnds T n l i f pre xs σ1 b σ2 → Rnds T n l i f pre (a :: xs) σ b σ2
  | stop (a : α) (xs : List α) (σ σ1 : Stack) : σ.length = n → σ1.length = n → lim T (.round l i (f a) (pre a ++ σ)) = some (.val (.bool false) (pre a ++ σ1)) → Rnds T n l i f pre (a :: xs) σ false σ1
theorem Rnds.len {T : Tbl} {n l i : Nat} {α : Type} {f : α → List D} {pre : α → Stack} {xs : List α} {σ σ' : Stack} {b : Bool} (h : Rnds T n l i f pre xs σ b σ') : σ.length = n ∧ σ'.length = n := by
  induction h with
  | nil σ h => exact ⟨h, h⟩
  | go _ _ _ _ _ _ h _ _ ih => exact ⟨h, ih.2⟩
  | stop _ _ _ _ h h' _ => exact ⟨h, h'⟩
theorem Rnds.split {T : Tbl} {n l i : Nat} {α : Type} {f : α → List D} {pre : α → Stack} : ∀ {xs bs : List α} {σ σ' : Stack} {b : Bool}, Rnds T n l i f pre (xs ++ bs) σ b σ' →
    (∃ σ1, Rnds T n l i f pre xs σ true σ1 ∧ Rnds T n l i f pre bs σ1 b σ') ∨ (b = false ∧ Rnds T n l i f pre xs σ false σ')
  | [], bs, σ, σ', b, h => .inl ⟨σ, .nil σ h.len.1, h⟩
  | a :: xs, bs, σ, σ', b, h => by
    cases h with
    | go _ _ _ σ1 _ _ hl h1 h2 =>
      rcases Rnds.split h2 with ⟨σ3, h3, h4⟩ | ⟨rfl, h3⟩
      · exact .inl ⟨σ3, .go _ _ _ _ _ _ hl h1 h3, h4⟩
      · exact .inr ⟨rfl, .go _ _ _ _ _ _ hl h1 h3⟩
    | stop _ _ _ _ hl hl' h1 => exact .inr ⟨rfl, .stop _ _ _ _ hl hl' h1⟩
@[simp] theorem frz_yld_low {l n l' i : Nat} {σ : Stack} (h : l' ≤ l) (hn : 0 < n) : frz l n (.yld l' i) σ = (.yld l' i, σ) := by
  cases n with
  | zero => omega
  | succ n => simp [frz, D.clean, h]

def rmP (p : Int × Int) : Stack := [[.cells 0 (cvA p), .dead], [], []]
theorem st_clean {t : Test} : D.cleanL (t.st.flatMap Step.enc) = true := k_clean (fun x => by simp) _
theorem L_c {t : Test} (h : Tv t) {n l i : Nat} {b : Int} (hl : l < n) (hb : t.b.lo ≤ b ∧ b ≤ t.b.hi) : ∀ (m : Nat) (c : Int) (S S' : Stack) (fl : Bool), t.c.lo ≤ c → (cRow t b c).length = m → Rnds T n l i (rmA t) rmP (cRow t b c) S fl S' →
    WL T [0, 1, 3, 4] true f_trial_Test_rooms_1_l15 [(0, .yld l i), (1, .cref t.enc), (3, .int .i64 b), (4, .int .i64 c)] ([] :: [] :: S)
      (fun x' e σ' => σ' = [] :: [] :: S' ∧ if fl then x' = .exit 2 ∧ get e 0 = .yld l i ∧ get e 1 = .cref t.enc ∧ get e 3 = .int .i64 b else x' = .ret ∧ ∃ c' : Int, e = [(0, .yld l i), (1, .cref t.enc), (3, .int .i64 b), (4, .int .i64 c'), (55, .bool true)])
  | 0, c, S, S', fl, hc0, hm, hr => by
    refine WL_stepS e_trial_Test_rooms_1_l15 ?_
    have hn := hr.len
    by_cases hc : c ≤ t.c.hi
    · rw [cRow_cons hc] at hm; cases hm
    · rw [cRow_nil (by omega)] at hr
      cases hr
      have hl' : l ≤ S.length + 1 := by omega
      simp [-List.length_flatMap, -List.map_take, eF, hc, hl', st_clean]
  | m + 1, c, S, S', fl, hc0, hm, hr => by
    refine WL_stepS e_trial_Test_rooms_1_l15 ?_
    have hn := hr.len
    by_cases hc : c ≤ t.c.hi
    · rw [cRow_cons hc] at hm hr
      simp only [List.length_cons, Nat.add_right_cancel_iff] at hm
      have hl' : l ≤ S.length + 1 := by omega
      have hB : BC t b c := ⟨hb, by omega, hc⟩
      have hC := h.c
      have w1 := w64 (n := c + 1) (by omega)
      simp [-List.length_flatMap, -List.map_take, eF, hc]
      refine WL.to (L_rooms (σ := [] :: [] :: S) h hB (yl := l) (yi := i) t.st.length 0 (by omega)) (by simp) (by simp [cvA]) ?_
      rintro x' e σ' ⟨rfl, rfl, g0, g1, g2, g3, g4, g5⟩
      have hf := k_frz (f := Rg.enc) (w := 2) (fun _ => rfl) (fun x => by simp) (l := roomsOf t b c) (j := 1) (v := t.st.length) (bs := [.cells 0 (cvA (b, c)), .cells t.st.length ((roomsOf t b c).flatMap Rg.enc)]) (σ := [] :: [] :: S) (by simp) rfl
      have hlr : (roomsOf t b c).length = t.st.length + 1 := by simp [roomsOf]
      rw [hlr] at hf
      simp only [cvA] at hf
      simp at hf g4 g5
      have hn1 : S.length = n := hn.1
      cases hr with
      | go _ _ _ S1 _ _ hl1 hg hr =>
        subst hl1
        have ih := L_c h hl hb m (c + 1) S1 S' fl (by omega) hm hr
        have hl2 : l ≤ S1.length + 1 := by have := hr.len.1; omega
        have hl3 := hr.len.1
        simp only [rmA, rmP, cvA, hlr, List.cons_append, List.nil_append] at hg
        simp [-List.length_flatMap, -List.map_take, cvA, g0, g1, g2, g3, g4, g5, hf, hg, w1, eF, hl3, hl', st_clean]
        exact WL.to ih (by simp) (by simp) fun x e σ' hh => hh
      | stop _ _ _ _ hl1 hl2 hg =>
        subst hl1
        simp only [rmA, rmP, cvA, hlr, List.cons_append, List.nil_append] at hg
        simp [-List.length_flatMap, -List.map_take, cvA, g0, g1, g2, g3, g4, g5, hf, hg, w1, eF, hl2, hl', st_clean]
    · rw [cRow_nil (by omega)] at hm; cases hm

theorem L_b {t : Test} (h : Tv t) {n l i : Nat} (hl : l < n) : ∀ (m : Nat) (b : Int) (S S' : Stack) (fl : Bool), t.b.lo ≤ b → (upto b t.b.hi).length = m → Rnds T n l i (rmA t) rmP (bRows t b) S fl S' →
    WL T [0, 1, 3] true f_trial_Test_rooms_1_l17 [(0, .yld l i), (1, .cref t.enc), (3, .int .i64 b)] ([] :: S)
      (fun x' e σ' => σ' = [] :: S' ∧ if fl then x' = .exit 0 else x' = .ret)
  | 0, b, S, S', fl, hb0, hm, hr => by
    refine WL_stepS e_trial_Test_rooms_1_l17 ?_
    have hn := hr.len
    by_cases hc : b ≤ t.b.hi
    · rw [upto_cons hc] at hm; cases hm
    · rw [bRows_nil (by omega)] at hr
      cases hr
      have hl' : l ≤ S.length := by omega
      simp [-List.length_flatMap, -List.map_take, eF, hc, hl', st_clean]
  | m + 1, b, S, S', fl, hb0, hm, hr => by
    refine WL_stepS e_trial_Test_rooms_1_l17 ?_
    have hn := hr.len
    by_cases hc : b ≤ t.b.hi
    · rw [upto_cons hc] at hm
      rw [bRows_cons hc] at hr
      simp only [List.length_cons, Nat.add_right_cancel_iff] at hm
      have hB := h.b
      have w1 := w64 (n := b + 1) (by omega)
      simp [-List.length_flatMap, -List.map_take, eF, hc]
      rcases hr.split with ⟨S1, hr1, hr2⟩ | ⟨rfl, hr1⟩
      · refine WL.to (L_c h hl ⟨hb0, hc⟩ _ t.c.lo _ _ _ (by omega) rfl hr1) (by simp) (by simp) ?_
        rintro x' e σ' ⟨rfl, g0, g1, g2, g3⟩
        subst g0
        have ih := L_b h hl m (b + 1) S1 S' fl (by omega) hm hr2
        have hl2 : l ≤ S1.length := by have := hr2.len.1; omega
        have hl3 : S1.length = S.length := by rw [hr2.len.1, hn.1]
        have hl4 : l ≤ S.length := by omega
        simp [-List.length_flatMap, -List.map_take, g1, g2, g3, w1, eF, hl3, hl4, st_clean]
        exact WL.to ih (by simp) (by simp) fun x e σ' hh => hh
      · refine WL.to (L_c h hl ⟨hb0, hc⟩ _ t.c.lo _ _ _ (by omega) rfl hr1) (by simp) (by simp) ?_
        rintro x' e σ' ⟨rfl, g0⟩
        simp only [Bool.false_eq_true, if_false] at g0
        obtain ⟨rfl, c', rfl⟩ := g0
        have hl4 : l ≤ S.length := by omega
        have hl3 : S'.length = S.length := by rw [hr1.len.2, hr1.len.1]
        simp [hl3, hl4, st_clean]
    · rw [upto_nil (by omega)] at hm; cases hm

/-- The program's rooms, one after another. -/
theorem C_rooms1 {t : Test} (h : Tv t) {l i : Nat} {S S' : Stack} {fl : Bool} (hl : l < S.length) (hr : Rnds T S.length l i (rmA t) rmP (pairs t) S fl S') :
    lim T (.call false i_trial_Test_rooms_1 [.yld l i, .cref t.enc] S) = some (.val (.tup []) S') := by
  have hn := hr.len
  refine call_to T_trial_Test_rooms_1 e_trial_Test_rooms_1 rfl hn.2 ?_
  simp [-List.length_flatMap, -List.map_take, eF]
  refine WL.to (L_b h hl _ t.b.lo S S' fl (by omega) rfl hr) (by simp) (by simp) ?_
  rintro x e σ' ⟨rfl, g⟩
  cases fl
  · simp only [Bool.false_eq_true, if_false] at g
    subst g
    simp
  · simp only [if_true] at g
    subst g
    simp
@[simp] theorem lnk6 {n : Nat} : (n + 1 + 1 + 1 + 1 + 1 + 1 = n) = False := by simp; omega
@[simp] theorem lnk7 {n : Nat} : (n + 1 + 1 + 1 + 1 + 1 + 1 + 1 = n) = False := by simp; omega
@[simp] theorem lnk8 {n : Nat} : (n + 1 + 1 + 1 + 1 + 1 + 1 + 1 + 1 = n) = False := by simp; omega
@[simp] theorem lnk9 {n : Nat} : (n + 1 + 1 + 1 + 1 + 1 + 1 + 1 + 1 + 1 = n) = False := by simp; omega
@[simp] theorem lnk10 {n : Nat} : (n + 1 + 1 + 1 + 1 + 1 + 1 + 1 + 1 + 1 + 1 = n) = False := by simp; omega
@[simp] theorem lnk11 {n : Nat} : (n + 1 + 1 + 1 + 1 + 1 + 1 + 1 + 1 + 1 + 1 + 1 = n) = False := by simp; omega
def lpS (l i : Nat) : LoopSt := { state := 0, pend := none, env := [(2, .cref [.yld l i])], params := [8, 9], asg := f_trial_Test_sets_1_a6, body := f_trial_Test_sets_1_b6 }
def lpS1 (l i : Nat) : LoopSt := { state := 1, pend := none, env := [(2, .cref [.yld l i])], params := [8, 9], asg := f_trial_Test_sets_1_a6, body := f_trial_Test_sets_1_b6 }
def lpS2 (l i : Nat) : LoopSt := { state := 2, pend := some .ret, env := [(2, .cref [.yld l i])], params := [8, 9], asg := f_trial_Test_sets_1_a6, body := f_trial_Test_sets_1_b6 }
def stA (x : Cv × Rg) : List D := [.agg x.1.enc, .agg x.2.enc]
def stP (l i : Nat) (x : Cv × Rg) : Stack := [[], [.cells 0 (cvA (x.1.b, x.1.c)), .dead], [], [], [.loop (lpS1 l i)]]

theorem R_set0 {t : Test} (h : Tv t) {p : Int × Int} (hp : setAt t p = none) {l i : Nat} {S : Stack} :
    lim T (.round S.length 0 (rmA t p) (rmP p ++ ([.loop (lpS l i)] :: S))) = some (.val (.bool true) (rmP p ++ ([.loop (lpS l i)] :: S))) := by
  have hn := h.n
  have hm := fun σ => @C_meet σ t.a (t.st.map (rmS p.1 p.2)) (by simp; omega)
  have hs : (t.st.map (rmS p.1 p.2)).foldl meet t.a = setOf t p.1 p.2 := rfl
  rw [hs] at hm
  have hne : ¬ (setOf t p.1 p.2).lo ≤ (setOf t p.1 p.2).hi := by
    unfold setAt at hp
    split at hp
    · cases hp
    · rename_i g; simpa [Rg.ne] using g
  refine round_of (lp := lpS l i) (by simp [rmP]) rfl ?_
  rw [show (lpS l i).asg = f_trial_Test_sets_1_a6 from rfl, e_trial_Test_sets_1_a6, show (lpS l i).body = f_trial_Test_sets_1_b6 from rfl]
  simp only [rmA, roomsOf, List.flatMap_cons, List.length_cons]
  simp [-List.length_flatMap, -List.map_take, eF, lpS, rmP, cvA, midR]
  simp only [List.length_map, Rg.enc, List.cons_append, List.nil_append] at hm
  simp [-List.length_flatMap, -List.map_take, eF, WC_eq e_trial_Test_sets_1_b6, hm, hne]

theorem R_setG {t : Test} (h : Tv t) {x : Cv × Rg} {p : Int × Int} (hp : setAt t p = some x) {l i : Nat} {S S1 : Stack} (hl : S1.length = S.length) (hg : lim T (.round l i (stA x) (stP l i x ++ S)) = some (.val (.bool true) (stP l i x ++ S1))) :
    lim T (.round S.length 0 (rmA t p) (rmP p ++ ([.loop (lpS l i)] :: S))) = some (.val (.bool true) (rmP p ++ ([.loop (lpS l i)] :: S1))) := by
  have hn := h.n
  have hm := fun σ => @C_meet σ t.a (t.st.map (rmS p.1 p.2)) (by simp; omega)
  have hs : (t.st.map (rmS p.1 p.2)).foldl meet t.a = setOf t p.1 p.2 := rfl
  rw [hs] at hm
  have hne : (setOf t p.1 p.2).lo ≤ (setOf t p.1 p.2).hi := by
    unfold setAt at hp
    split at hp
    · rename_i g; simpa [Rg.ne] using g
    · cases hp
  have hx : x = (⟨0, p.1, p.2⟩, setOf t p.1 p.2) := by simp [setAt, Rg.ne, hne] at hp; exact hp.symm
  subst hx
  refine round_of (lp := lpS l i) (by simp [rmP]) rfl ?_
  rw [show (lpS l i).asg = f_trial_Test_sets_1_a6 from rfl, e_trial_Test_sets_1_a6, show (lpS l i).body = f_trial_Test_sets_1_b6 from rfl]
  simp only [rmA, roomsOf, List.flatMap_cons, List.length_cons]
  simp only [stA, stP, lpS1, cvA, Cv.enc, Rg.enc, List.cons_append, List.nil_append] at hg
  simp [-List.length_flatMap, -List.map_take, eF, lpS, rmP, cvA, midR]
  simp only [List.length_map, Rg.enc, List.cons_append, List.nil_append] at hm
  simp [-List.length_flatMap, -List.map_take, eF, WC_eq e_trial_Test_sets_1_b6, hm, hne, hg, hl]
theorem R_setX {t : Test} (h : Tv t) {x : Cv × Rg} {p : Int × Int} (hp : setAt t p = some x) {l i : Nat} {S S1 : Stack} (hl : S1.length = S.length) (hg : lim T (.round l i (stA x) (stP l i x ++ S)) = some (.val (.bool false) (stP l i x ++ S1))) :
    lim T (.round S.length 0 (rmA t p) (rmP p ++ ([.loop (lpS l i)] :: S))) = some (.val (.bool false) (rmP p ++ ([.loop (lpS2 l i)] :: S1))) := by
  have hn := h.n
  have hm := fun σ => @C_meet σ t.a (t.st.map (rmS p.1 p.2)) (by simp; omega)
  have hs : (t.st.map (rmS p.1 p.2)).foldl meet t.a = setOf t p.1 p.2 := rfl
  rw [hs] at hm
  have hne : (setOf t p.1 p.2).lo ≤ (setOf t p.1 p.2).hi := by
    unfold setAt at hp
    split at hp
    · rename_i g; simpa [Rg.ne] using g
    · cases hp
  have hx : x = (⟨0, p.1, p.2⟩, setOf t p.1 p.2) := by simp [setAt, Rg.ne, hne] at hp; exact hp.symm
  subst hx
  refine round_of (lp := lpS l i) (by simp [rmP]) rfl ?_
  rw [show (lpS l i).asg = f_trial_Test_sets_1_a6 from rfl, e_trial_Test_sets_1_a6, show (lpS l i).body = f_trial_Test_sets_1_b6 from rfl]
  simp only [rmA, roomsOf, List.flatMap_cons, List.length_cons]
  simp only [stA, stP, lpS1, cvA, Cv.enc, Rg.enc, List.cons_append, List.nil_append] at hg
  simp [-List.length_flatMap, -List.map_take, eF, lpS, lpS2, rmP, cvA, midR]
  simp only [List.length_map, Rg.enc, List.cons_append, List.nil_append] at hm
  simp [-List.length_flatMap, -List.map_take, eF, WC_eq e_trial_Test_sets_1_b6, hm, hne, hg, hl]

theorem Rs_sets {t : Test} (h : Tv t) {l i : Nat} : ∀ {ps : List (Int × Int)} {S S' : Stack} {n : Nat} {fl : Bool}, Rnds T n l i stA (stP l i) (ps.filterMap (setAt t)) S fl S' →
    Rnds T (n + 1) n 0 (rmA t) rmP ps ([.loop (lpS l i)] :: S) fl ([.loop (if fl then lpS l i else lpS2 l i)] :: S')
  | [], S, S', n, fl, hr => by
    simp only [List.filterMap_nil] at hr
    cases hr with
    | nil _ hn => exact .nil _ (by simp [hn])
  | p :: ps, S, S', n, fl, hr => by
    have hn := hr.len
    cases hp : setAt t p with
    | none =>
      rw [List.filterMap_cons, hp] at hr
      have := R_set0 h hp (l := l) (i := i) (S := S)
      rw [hn.1] at this
      exact .go _ _ _ _ _ _ (by simp [hn.1]) this (Rs_sets h hr)
    | some x =>
      rw [List.filterMap_cons, hp] at hr
      dsimp only at hr
      cases hr with
      | go _ _ _ S1 _ _ hl hg hr2 =>
        have hl1 := hr2.len.1
        have := R_setG h hp (l := l) (i := i) (S := S) (S1 := S1) (by omega) hg
        rw [hn.1] at this
        exact .go _ _ _ _ _ _ (by simp [hn.1]) this (Rs_sets h hr2)
      | stop _ _ _ _ hl hl1 hg =>
        have := R_setX h hp (l := l) (i := i) (S := S) (S1 := S') (by omega) hg
        rw [hn.1] at this
        exact .stop _ _ _ _ (by simp [hn.1]) (by simp [hn.2]) (by simpa using this)
theorem C_rooms {t : Test} (hσ : σ ≠ []) : lim T (.call true i_trial_Test_rooms [.agg [.int .i64 t.a.lo, .int .i64 t.a.hi, .int .i64 t.b.lo, .int .i64 t.b.hi, .int .i64 t.c.lo, .int .i64 t.c.hi, .lst t.st.length (t.st.flatMap Step.enc)]] σ) = some (.val (.fn i_trial_Test_rooms_1 [] [.cref t.enc]) σ) := by
  refine call_kp T_trial_Test_rooms e_trial_Test_rooms rfl ?_
  simp [-List.length_flatMap, -List.map_take, eF]
theorem C_sets {t : Test} (hσ : σ ≠ []) : lim T (.call true i_trial_Test_sets [.agg [.int .i64 t.a.lo, .int .i64 t.a.hi, .int .i64 t.b.lo, .int .i64 t.b.hi, .int .i64 t.c.lo, .int .i64 t.c.hi, .lst t.st.length (t.st.flatMap Step.enc)]] σ) = some (.val (.fn i_trial_Test_sets_1 [] [.cref t.enc]) σ) := by
  refine call_kp T_trial_Test_sets e_trial_Test_sets rfl ?_
  simp [-List.length_flatMap, -List.map_take, eF]
/-- The program's sets, one after another. -/
theorem C_sets1 {t : Test} (h : Tv t) {l i : Nat} {S S' : Stack} {fl : Bool} (hl : l < S.length) (hr : Rnds T S.length l i stA (stP l i) (sets t) S fl S') :
    lim T (.call false i_trial_Test_sets_1 [.yld l i, .cref t.enc] S) = some (.val (.tup []) S') := by
  have hn := hr.len
  have hr' := Rs_sets h hr
  have hc := C_rooms1 h (l := S.length) (i := 0) (S := [.loop (lpS l i)] :: S) (by simp) (by simpa using hr')
  refine call_to T_trial_Test_sets_1 e_trial_Test_sets_1 rfl hn.2 ?_
  simp [-List.length_flatMap, -List.map_take, eF, C_rooms]
  refine WC_rngf (d := .tup []) (σ2 := [.loop (if fl then lpS l i else lpS2 l i)] :: S') (lp := if fl then lpS l i else lpS2 l i) (by simp; exact ⟨rfl, rfl, rfl⟩) ?_ (by simp [hn.2]) (by cases fl <;> simp [lpS, lpS2]) ?_
  · simpa [lpS] using hc
  · cases fl <;> simp [lpS, lpS2, hn.2]
def z2 : List D := [.int .i64 0, .int .i64 0]
def lpD (q : Int) (L : Nat) : LoopSt := { state := 0, pend := none, env := [(3, .cref [.int .i64 q]), (4, .ref L 0 0 0), (5, .ref L 1 0 0)], params := [10, 11], asg := f_trial_Test_drawdown_a8, body := f_trial_Test_drawdown_b8 }
def stD (q : Int) (acc : List Rg) (σ : Stack) : Stack := [.cells 0 (spanL acc).enc, .cells 0 [.bool !acc.isEmpty], .loop (lpD q σ.length)] :: σ

/-- What is known of a set that is no empty one. -/
theorem sets_ok {t : Test} (h : Tv t) {x : Cv × Rg} (hx : x ∈ sets t) : x.1.a = 0 ∧ BC t x.1.b x.1.c ∧ x.2 = setOf t x.1.b x.1.c ∧ 0 ≤ x.2.lo ∧ x.2.lo ≤ x.2.hi ∧ x.2.hi ≤ 100000 := by
  obtain ⟨h1, h2, h3, h4⟩ := sets_mem hx
  have h5 := pairs_mem h2
  have h6 := @set_bound t h x.1.b x.1.c
  rw [← h3] at h6
  have h7 := h.a
  exact ⟨h1, ⟨h5.1, h5.2⟩, h3, by omega, h4, by omega⟩
theorem BC.drq {t : Test} (h : Tv t) {b c q : Int} (hb : BC t b c) (hq : 0 ≤ q ∧ q ≤ 1000) {a : Int} (ha : -2100000000 ≤ a ∧ a ≤ 2100000000) : Dr a b c q := by
  have h1 := h.b; have h2 := h.c; have h4 := hb.b; have h5 := hb.c
  exact ⟨hq, ha, by omega, by omega⟩
theorem R_draw {t : Test} (h : Tv t) {q : Int} (hq : 0 ≤ q ∧ q ≤ 1000) {x : Cv × Rg} (hx : x ∈ sets t) {acc : List Rg} :
    lim T (.round σ.length 2 (stA x) (stP σ.length 2 x ++ stD q acc σ)) = some (.val (.bool true) (stP σ.length 2 x ++ stD q (acc ++ [shift q x]) σ)) := by
  obtain ⟨h1, hB, h3, h4, h5, h6⟩ := sets_ok h hx
  obtain ⟨⟨a, b, c⟩, ⟨lo, hi⟩⟩ := x
  dsimp only at h1 hB h3 h4 h5 h6
  subst h1
  have hd := hB.drq h hq (a := 0) (by omega)
  have hC := fun σ => @C_drop σ 0 b c q hd
  have h0 := dr0 hd
  have w1 := w64 (n := -Cv.drop ⟨0, b, c⟩ q) (by omega)
  have hL := fun σ => @C_less σ lo hi (-Cv.drop ⟨0, b, c⟩ q) (by omega) (by omega) (by omega)
  have e1 : lo - -Cv.drop ⟨0, b, c⟩ q = Cv.drop ⟨lo, b, c⟩ q := by simp only [Cv.drop]; omega
  have e2 : hi - -Cv.drop ⟨0, b, c⟩ q = Cv.drop ⟨hi, b, c⟩ q := by simp only [Cv.drop]; omega
  rw [e1, e2] at hL
  refine round_of (lp := lpD q σ.length) (by simp [stP, stD]) rfl ?_
  rw [show (lpD q σ.length).asg = f_trial_Test_drawdown_a8 from rfl, e_trial_Test_drawdown_a8, show (lpD q σ.length).body = f_trial_Test_drawdown_b8 from rfl]
  cases acc with
  | nil => simp [-List.length_flatMap, -List.map_take, eF, WC_eq e_trial_Test_drawdown_b8, lpD, stD, stP, stA, cvA, midR, hC, w1, hL, C_span, spanL, shift]
  | cons r acc =>
    have hs := spanL_snoc (l := r :: acc) (by simp) (shift q (⟨0, b, c⟩, ⟨lo, hi⟩))
    simp only [shift, span] at hs
    simp [-List.length_flatMap, -List.map_take, eF, WC_eq e_trial_Test_drawdown_b8, lpD, stD, stP, stA, cvA, midR, hC, w1, hL, C_span, shift]
    simp only [List.cons_append] at hs
    rw [hs]
    simp
theorem Rs_draw {t : Test} (h : Tv t) {q : Int} (hq : 0 ≤ q ∧ q ≤ 1000) : ∀ (l : List (Cv × Rg)) (acc : List Rg), (∀ x ∈ l, x ∈ sets t) →
    Rnds T (σ.length + 1) σ.length 2 stA (stP σ.length 2) l (stD q acc σ) true (stD q (acc ++ l.map (shift q)) σ)
  | [], acc, _ => by simpa using Rnds.nil _ (by simp [stD])
  | x :: l, acc, hl => by
    refine .go _ _ _ _ _ _ (by simp [stD]) (R_draw h hq (hl x (by simp))) ?_
    have := Rs_draw h hq l (acc ++ [shift q x]) fun y hy => hl y (by simp [hy])
    simpa using this
theorem C_drawdown {t : Test} (h : Tv t) {q : Int} (hq : 0 ≤ q ∧ q ≤ 1000) (hσ : σ ≠ []) :
    lim T (.call false i_trial_Test_drawdown [.agg [.int .i64 t.a.lo, .int .i64 t.a.hi, .int .i64 t.b.lo, .int .i64 t.b.hi, .int .i64 t.c.lo, .int .i64 t.c.hi, .lst t.st.length (t.st.flatMap Step.enc)], .int .i64 q] σ) = some (.val (.tup [.agg (dOf q (sets t)).enc, .bool !(sets t).isEmpty]) σ) := by
  refine call_of T_trial_Test_drawdown e_trial_Test_drawdown rfl ?_
  have hr := Rs_draw (σ := σ) h hq (sets t) [] fun x hx => hx
  have hc := C_sets1 h (l := σ.length) (i := 2) (S := stD q [] σ) (by simp [stD]) (by simpa [stD] using hr)
  simp [-List.length_flatMap, -List.map_take, eF, C_sets]
  refine WC_rngf (d := .tup []) (σ2 := stD q ([] ++ (sets t).map (shift q)) σ) (lp := lpD q σ.length) (by simp; exact ⟨rfl, rfl, rfl⟩) ?_ (by simp [stD]) (by simp [lpD]) ?_
  · simpa [lpD, stD, spanL] using hc
  · have e : ((sets t).map (shift q)).isEmpty = (sets t).isEmpty := by cases sets t <;> rfl
    simp [-List.length_flatMap, -List.map_take, lpD, stD, eF, dOf, e]
/-- What the program says of the drawdown at a flow. -/
def drawP (t : Test) (q : Int) : D :=
  if fault t = 0 then (if inn q 0 1000 then (if (sets t).isEmpty then .tup [.agg z2, .int .i64 7] else .tup [.agg (dOf q (sets t)).enc, .int .i64 0]) else .tup [.agg z2, .int .i64 2]) else .tup [.agg z2, .int .i64 (fault t)]
theorem C_drawP {t : Test} (hl : t.st.length ≤ 100000) {q : Int} (hσ : σ ≠ []) : lim T (.call false i_trial_Drawdown [.agg [.int .i64 t.a.lo, .int .i64 t.a.hi, .int .i64 t.b.lo, .int .i64 t.b.hi, .int .i64 t.c.lo, .int .i64 t.c.hi, .lst t.st.length (t.st.flatMap Step.enc)], .int .i64 q] σ) = some (.val (drawP t q) σ) := by
  refine call_of T_trial_Drawdown e_trial_Drawdown rfl ?_
  have hf := fun σ => @C_check σ t hl
  by_cases h0 : fault t = 0
  rotate_left
  · simp [-List.length_flatMap, -List.map_take, eF, hf, h0, drawP, z2]
  have h := fault_tv h0
  cases hq : inn q 0 1000
  · simp [-List.length_flatMap, -List.map_take, eF, hf, h0, C_within, hq, drawP, z2]
  have hd := fun σ (hσ : σ ≠ []) => @C_drawdown σ t h q (inn_iff.1 hq) hσ
  cases hs : (sets t).isEmpty
  · rw [hs] at hd
    simp [-List.length_flatMap, -List.map_take, eF, hf, h0, C_within, hq, hd, drawP, z2, hs]
  · rw [hs] at hd
    simp [-List.length_flatMap, -List.map_take, eF, hf, h0, C_within, hq, hd, drawP, z2, hs]
end Go.Proofs.Ytehandllpmlcoaa
