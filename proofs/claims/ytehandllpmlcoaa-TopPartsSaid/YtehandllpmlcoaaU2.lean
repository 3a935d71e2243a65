/-
  Contracts.
-/
import Derived.Test.YtehandllpmlcoaaU1
import Derived.Test.YtehandllpmlcoaaSurvSpec
set_option linter.unusedVariables false
set_option linter.unusedSimpArgs false
namespace Go.Proofs.Ytehandllpmlcoaa.Srv
open Go Go.Abs Go.Trial
open Go Go.Abs Go.Trial
variable {σ : Stack}

theorem dropS {α : Type} {l : List α} {i : Nat} {x : α} (hx : l[i]? = some x) : l.drop i = x :: l.drop (i + 1) := by
  have h1 := (List.getElem?_eq_some_iff.1 hx).1
  rw [List.drop_eq_getElem_cons h1]
  rw [List.getElem?_eq_getElem h1] at hx; cases hx; rfl
theorem L_seen {s : Surv} (hw : 1 ≤ s.w ∧ s.w ≤ 10) (hl : s.l.length ≤ 60) : ∀ (m i : Nat), i + m = s.l.length →
    WL T [1, 20, 21, 22] false f_trial_CheckSurvey_l11 [(1, .cref s.enc), (20, .lst s.l.length (s.l.flatMap Seen.enc)), (21, .int .i64 s.l.length), (22, .int .i64 i)] σ
      (fun x e σ' => σ' = σ ∧ if allB (s.l.drop i) (seenOk s.w) then x = .exit 0 else x = .ret ∧ get e 2 = .int .i64 1)
  | 0, i, hi => by
    refine WL_step e_trial_CheckSurvey_l11 ?_
    have h1 : ¬ i < s.l.length := by omega
    have h2 : s.l.drop i = [] := List.drop_eq_nil_of_le (by omega)
    simp [-List.length_flatMap, -List.map_take, eF, h1, h2, allB]
  | m + 1, i, hi => by
    refine WL_step e_trial_CheckSurvey_l11 ?_
    have h1 : i < s.l.length := by omega
    obtain ⟨x, hx⟩ : ∃ x, s.l[i]? = some x := ⟨_, List.getElem?_eq_getElem h1⟩
    have h2 := flat_at (f := Seen.enc) (w := 4) (fun _ => rfl) hx
    have h4 := wnext h1 (by omega)
    have w1 := w64 (n := s.w - 1) (by omega)
    have ih := L_seen hw hl m (i + 1) (by omega)
    have h6 : allB (s.l.drop i) (seenOk s.w) = ((inn x.f 0 (s.w - 1) && (inn x.t 0 (s.w - 1) && (!decide (x.f = x.t) && x.d.drops))) && allB (s.l.drop (i + 1)) (seenOk s.w)) := by rw [dropS hx]; rfl
    rw [h6]
    by_cases c1 : inn x.f 0 (s.w - 1) = true
    rotate_left
    · rw [Bool.not_eq_true] at c1
      simp [-List.length_flatMap, -List.map_take, eF, h1, h2, h4, w1, C_within, c1]
    by_cases c2 : inn x.t 0 (s.w - 1) = true
    rotate_left
    · rw [Bool.not_eq_true] at c2
      simp [-List.length_flatMap, -List.map_take, eF, h1, h2, h4, w1, C_within, c1, c2]
    by_cases c3 : x.f = x.t
    · simp [-List.length_flatMap, -List.map_take, eF, h1, h2, h4, w1, C_within, c1, c2, c3]
    by_cases c4 : x.d.drops = true
    rotate_left
    · rw [Bool.not_eq_true] at c4
      simp [-List.length_flatMap, -List.map_take, eF, h1, h2, h4, w1, C_within, C_drops, c1, c2, c3, c4]
    · simp [-List.length_flatMap, -List.map_take, eF, h1, h2, h4, w1, C_within, C_drops, c1, c2, c3, c4]
      refine WL.to ih (by simp) rfl ?_
      intro x' e σ' hh
      simpa [c1, c2, c3, c4] using hh
theorem C_checkS {s : Surv} (hl : s.l.length ≤ 100000) : lim T (.call false i_trial_CheckSurvey [.agg [.int .i64 s.w, .int .i64 s.lv, .lst s.l.length (s.l.flatMap Seen.enc)]] σ) = some (.val (.int .i64 (sFault s)) σ) := by
  refine call_of T_trial_CheckSurvey e_trial_CheckSurvey rfl ?_
  unfold sFault
  by_cases h0 : 60 < s.l.length
  · have h0' : (60 : Int) < s.l.length := by omega
    simp [-List.length_flatMap, -List.map_take, eF, h0, h0']
  have h0' : ¬ (60 : Int) < s.l.length := by omega
  cases ha : inn s.w 1 10
  · simp [-List.length_flatMap, -List.map_take, eF, h0, h0', C_within, ha]
  cases hb : inn s.lv (-2000000000) 2000000000
  · simp [-List.length_flatMap, -List.map_take, eF, h0, h0', C_within, ha, hb]
  simp [-List.length_flatMap, -List.map_take, eF, h0, h0', C_within, ha, hb]
  refine WL.to (L_seen (σ := [] :: σ) (inn_iff.1 ha) (by omega) s.l.length 0 (by omega)) (by simp) rfl ?_
  rintro x e σ' ⟨rfl, hx⟩
  simp only [List.drop_zero] at hx
  cases hA : allB s.l (seenOk s.w)
  · rw [hA] at hx
    simp only [Bool.false_eq_true, if_false] at hx
    obtain ⟨rfl, g⟩ := hx
    simp [-List.length_flatMap, -List.map_take, eF, g, h0]
  · rw [hA] at hx
    simp only [if_true] at hx
    subst hx
    simp [-List.length_flatMap, -List.map_take, eF, h0]
theorem C_joined {s : Surv} {x : Seen} : lim T (.call false i_trial_Survey_joined [.agg [.int .i64 s.w, .int .i64 s.lv, .lst s.l.length (s.l.flatMap Seen.enc)], .agg x.enc] σ) = some (.val (.bool (sure s x)) σ) := by
  refine call_of T_trial_Survey_joined e_trial_Survey_joined rfl ?_
  simp [-List.length_flatMap, -List.map_take, eF, sure]
theorem C_apart {s : Surv} {x : Seen} : lim T (.call false i_trial_Survey_apart [.agg [.int .i64 s.w, .int .i64 s.lv, .lst s.l.length (s.l.flatMap Seen.enc)], .agg x.enc] σ) = some (.val (.bool (agin s x)) σ) := by
  refine call_of T_trial_Survey_apart e_trial_Survey_apart rfl ?_
  simp [-List.length_flatMap, -List.map_take, eF, agin]
/-- Labels as numbers. -/
def gI (n : Nat) (g : Lab) : List Int := (List.range n).map fun z => (g z : Int)
@[simp] theorem gI_len {n : Nat} {g : Lab} : (gI n g).length = n := by simp [gI]
theorem gI_at {n : Nat} {g : Lab} {i : Nat} (h : i < n) : (gI n g)[i]? = some (g i : Int) := by simp [gI, h]
theorem gI_set {n : Nat} {g : Lab} {i m : Nat} : (gI n g).set i (m : Int) = gI n (fun z => if z = i then m else g z) := by
  apply List.ext_getElem
  · simp
  · intro j h1 h2
    simp only [List.getElem_set, gI, List.getElem_map, List.getElem_range]
    by_cases h : i = j
    · subst h; simp
    · rw [if_neg h, if_neg (fun h' => h h'.symm)]
theorem g1_at {n : Nat} {g : Lab} {i : Nat} (h : i < n) : ((gI n g).flatMap intE).drop i = .int .i64 (g i) :: ((gI n g).flatMap intE).drop (i + 1) := by
  have := k_drop (f := intE) (w := 1) (fun _ => rfl) (gI_at (g := g) h)
  simpa using this
theorem g1_len {n : Nat} {g : Lab} : ((gI n g).flatMap intE).length = n := by
  have := flat_len (f := intE) (w := 1) (fun _ => rfl) (gI n g)
  simpa using this
theorem set1 {l : List Int} {i : Nat} {x : Int} (h : i < l.length) : (l.flatMap intE).take i ++ .int .i64 x :: (l.flatMap intE).drop (i + 1) = (l.set i x).flatMap intE := by
  have := k_set (f := intE) (w := 1) (x := x) (fun _ => rfl) h
  simpa using this

/-- A survey with labels. -/
def pv (s : Surv) (g : Lab) : List D := .int .i64 s.w :: .int .i64 s.lv :: .lst s.l.length (s.l.flatMap Seen.enc) :: (gI 10 g).flatMap intE
def z13 : List D := [.int .i64 0, .int .i64 0, .nils, .int .i64 0, .int .i64 0, .int .i64 0, .int .i64 0, .int .i64 0, .int .i64 0, .int .i64 0, .int .i64 0, .int .i64 0, .int .i64 0]
theorem pv_len {s : Surv} {g : Lab} : (pv s g).length = 13 := by simp only [pv, List.length_cons, g1_len]
theorem pv_at {s : Surv} {g : Lab} {i : Nat} (h : i < 10) : (pv s g).drop (3 + i) = .int .i64 (g i) :: (pv s g).drop (3 + i + 1) := by
  rw [show 3 + i + 1 = (i + 1) + 1 + 1 + 1 by omega, show 3 + i = i + 1 + 1 + 1 by omega]
  simp only [pv, List.drop_succ_cons]
  exact g1_at h
theorem pv_set {s : Surv} {g : Lab} {i m : Nat} (h : i < 10) : (pv s g).take (3 + i) ++ .int .i64 (m : Int) :: (pv s g).drop (3 + i + 1) = pv s (fun z => if z = i then m else g z) := by
  rw [show 3 + i + 1 = (i + 1) + 1 + 1 + 1 by omega, show 3 + i = i + 1 + 1 + 1 by omega]
  simp only [pv, List.drop_succ_cons, List.take_succ_cons, List.cons_append]
  rw [set1 (by simpa using h), gI_set]
theorem L_p2 {s : Surv} (h : Trial.Sv s) {o : List Int} : ∀ (m i : Nat) (g : Lab), i + m = s.l.length →
    WL T [1, 2, 3, 5, 22, 23, 24] false f_trial_Survey_groups_l16 [(1, .cref s.enc), (2, .own 0 z13), (3, .own 0 (pv s g)), (5, .own 0 (o.flatMap intE)), (22, .lst s.l.length (s.l.flatMap Seen.enc)), (23, .int .i64 s.l.length), (24, .int .i64 i)] σ
      (fun x e σ' => σ' = σ ∧ x = .exit 4 ∧ get e 1 = .cref s.enc ∧ get e 2 = .own 0 z13 ∧ get e 3 = .own 0 (pv s ((s.l.drop i).foldl (stpS s) g)) ∧ get e 5 = .own 0 (o.flatMap intE))
  | 0, i, g, hi => by
    refine WL_step e_trial_Survey_groups_l16 ?_
    have h1 : ¬ i < s.l.length := by omega
    have h2 : s.l.drop i = [] := List.drop_eq_nil_of_le (by omega)
    simp [-List.length_flatMap, -List.map_take, eF, h1, h2]
  | m + 1, i, g, hi => by
    refine WL_step e_trial_Survey_groups_l16 ?_
    have h1 : i < s.l.length := by omega
    obtain ⟨x, hx⟩ : ∃ x, s.l[i]? = some x := ⟨_, List.getElem?_eq_getElem h1⟩
    have hn := h.n
    have hw := h.w
    have h4 := wnext h1 (by omega)
    have hv := h.l x (List.mem_of_getElem? hx)
    rw [dropS hx, List.foldl_cons]
    have ih := L_p2 h (o := o) m (i + 1) (stpS s g x) (by omega)
    have h2 := flat_at (f := Seen.enc) (w := 4) (fun _ => rfl) hx
    have hS := fun σ => @C_joined σ s x
    cases hs : sure s x
    · have e1 : stpS s g x = g := by simp [stpS, hs]
      rw [e1] at ih ⊢
      rw [hs] at hS
      simp only [Seen.enc] at hS h2
      simp [-List.length_flatMap, -List.map_take, eF, h1, h2, h4, hS]
      exact WL.to ih (by simp) (by simp) fun x e σ' hh => hh
    · have e1 : stpS s g x = Trial.stp g (edge x) := by simp [stpS, hs]
      rw [e1] at ih ⊢
      rw [hs] at hS
      obtain ⟨f, t, d⟩ := x
      dsimp only at hv
      obtain ⟨F, rfl⟩ : ∃ F : Nat, f = F := ⟨f.toNat, by omega⟩
      obtain ⟨U, rfl⟩ : ∃ U : Nat, t = U := ⟨t.toNat, by omega⟩
      simp only [edge, Int.toNat_natCast] at ih ⊢
      have hF : F < 10 := by omega
      have hU : U < 10 := by omega
      have hF' : (F : Int) < 10 := by omega
      have hU' : (U : Int) < 10 := by omega
      have a1 := pv_at (s := s) (g := g) hF
      have a2 := pv_at (s := s) (g := g) hU
      have a3 := fun g => @pv_len s g
      have hm : min (g F : Int) (g U) = ((min (g F) (g U) : Nat) : Int) := by omega
      have s1 := fun g m => @pv_set s g F m hF
      have s2 := fun g m => @pv_set s g U m hU
      have s3 : (fun z => if z = U then min (g F) (g U) else if z = F then min (g F) (g U) else g z) = Trial.stp g (F, U) := by
        funext z
        unfold Trial.stp
        by_cases h1 : z = U <;> by_cases h2 : z = F <;> simp [h1, h2]
      have b1 : 3 + F + 1 ≤ 13 := by omega
      have b2 : 3 + U + 1 ≤ 13 := by omega
      simp only [Seen.enc] at hS h2
      generalize (min (g F) (g U) : Nat) = M at *
      simp [-List.length_flatMap, -List.map_take, eF, h1, h2, h4, hS, hF', hU', a1, a2, a3, hm, s1, s2, s3, b1, b2]
      exact WL.to ih (by simp) (by simp) fun x e σ' hh => hh
theorem pv_congr {s : Surv} {g g' : Lab} (h : ∀ z, z < 10 → g z = g' z) : pv s g = pv s g' := by
  have : gI 10 g = gI 10 g' := by
    unfold gI
    apply List.map_congr_left
    intro z hz
    rw [h z (by simpa using hz)]
  unfold pv
  rw [this]
def upI (i : Nat) : Lab := fun z => if z < i then z else 0
theorem L_p0 {s : Surv} : ∀ (m i : Nat), i + m = 10 →
    WL T [1, 2, 3, 11] false f_trial_Survey_groups_l7 [(1, .cref s.enc), (2, .own 0 z13), (3, .own 0 (pv s (upI i))), (11, .int .i64 i)] σ
      (fun x e σ' => σ' = σ ∧ x = .exit 0 ∧ get e 1 = .cref s.enc ∧ get e 2 = .own 0 z13 ∧ get e 3 = .own 0 (pv s (upI 10)))
  | 0, i, hi => by
    refine WL_step e_trial_Survey_groups_l7 ?_
    have h1 : ¬ (i : Int) < 10 := by omega
    have h2 : i = 10 := by omega
    subst h2
    simp [-List.length_flatMap, -List.map_take, eF, h1]
  | m + 1, i, hi => by
    refine WL_step e_trial_Survey_groups_l7 ?_
    have h1 : (i : Int) < 10 := by omega
    have w1 := w64 (n := (i : Int) + 1) (by omega)
    have ih := L_p0 (s := s) m (i + 1) (by omega)
    have s1 := @pv_set s (upI i) i i (by omega)
    have e1 : (fun z => if z = i then i else upI i z) = upI (i + 1) := by
      funext z
      unfold upI
      by_cases h1 : z = i
      · subst h1; simp
      · by_cases h2 : z < i
        · rw [if_neg h1, if_pos h2, if_pos (by omega)]
        · rw [if_neg h1, if_neg h2, if_neg (by omega)]
    rw [e1] at s1
    have a3 := fun g => @pv_len s g
    have b1 : 3 + i + 1 ≤ 13 := by omega
    simp [-List.length_flatMap, -List.map_take, eF, h1, w1, s1, a3, b1]
    exact WL.to ih (by simp) (by simp) fun x e σ' hh => hh
theorem eqK_ints : ∀ (n : Nat) (a b : List Int), a.length = n → b.length = n → eqK (List.replicate n (some .i64)) (a.flatMap intE) (b.flatMap intE) = some (decide (a = b))
  | 0, [], [], _, _ => rfl
  | n + 1, x :: a, y :: b, ha, hb => by
    have ih := eqK_ints n a b (by simpa using ha) (by simpa using hb)
    simp only [List.replicate_succ, List.flatMap_cons, intE, List.cons_append, List.nil_append, eqK, and_self, if_true, ih, Option.map_some]
    congr 1
    by_cases h1 : x = y
    · subst h1; simp
    · simp [h1]
theorem gI_eq {n : Nat} {g g' : Lab} : gI n g = gI n g' ↔ ∀ z, z < n → g z = g' z := by
  constructor
  · intro h z hz
    have a := gI_at (g := g) hz
    rw [h, gI_at hz] at a
    simp at a
    omega
  · intro h
    unfold gI
    apply List.map_congr_left
    intro z hz
    rw [h z (by simpa using hz)]
theorem L_p1 {s : Surv} (h : Trial.Sv s) : ∀ (m k : Nat), k + m = s.w.toNat →
    WL T [1, 2, 3] false f_trial_Survey_groups_l19 [(1, .cref s.enc), (2, .own 0 z13), (3, .own 0 (pv s (rep (rnd (edges s)) k id)))] σ
      (fun x e σ' => σ' = σ ∧ x = .ret ∧ get e 2 = .own 0 (pv s (Gr s))) := by
  intro m
  induction m with
  | zero =>
    intro k hk
    have hk : k = s.w.toNat := by omega
    subst hk
    refine WL_step e_trial_Survey_groups_l19 ?_
    have a3 := fun g => @pv_len s g
    have t0 : ∀ g, (pv s g).take 13 = pv s g := fun g => List.take_of_length_le (by rw [pv_len]; exact Nat.le_refl _)
    have t1 : ∀ g, (pv s g).drop 3 = (gI 10 g).flatMap intE := fun g => rfl
    have t2 : ∀ g, ((gI 10 g).flatMap intE).take 10 = (gI 10 g).flatMap intE := fun g => List.take_of_length_le (by rw [g1_len]; exact Nat.le_refl _)
    simp [-List.length_flatMap, -List.map_take, eF, t1, t2, a3, g1_len]
    refine WL.to (L_p2 (σ := σ) h (o := gI 10 (rep (rnd (edges s)) s.w.toNat id)) s.l.length 0 (rep (rnd (edges s)) s.w.toNat id) (by omega)) (by simp) rfl ?_
    rintro x e σ' ⟨rfl, rfl, g1, g2, g3, g5⟩
    rw [List.drop_zero, ← rnd_eq] at g3
    have e1 : rnd (edges s) (rep (rnd (edges s)) s.w.toNat id) = Gr s := settled (edges_lt h)
    rw [e1] at g3
    have e2 : rep (rnd (edges s)) s.w.toNat id = Gr s := rfl
    rw [e2] at g5
    simp only [z13] at g2
    have hE := eqK_ints 10 (gI 10 (Gr s)) (gI 10 (Gr s)) (by simp) (by simp)
    rw [show List.replicate 10 (some IntKind.i64) = [some .i64, some .i64, some .i64, some .i64, some .i64, some .i64, some .i64, some .i64, some .i64, some .i64] from rfl] at hE
    simp only [Surv.enc] at g1
    simp [-List.length_flatMap, -List.map_take, eF, g1, g2, g3, g5, t0, t1, t2, a3, g1_len, hE]
  | succ m ih =>
    intro k hk
    refine WL_step e_trial_Survey_groups_l19 ?_
    have a3 := fun g => @pv_len s g
    have t0 : ∀ g, (pv s g).take 13 = pv s g := fun g => List.take_of_length_le (by rw [pv_len]; exact Nat.le_refl _)
    have t1 : ∀ g, (pv s g).drop 3 = (gI 10 g).flatMap intE := fun g => rfl
    have t2 : ∀ g, ((gI 10 g).flatMap intE).take 10 = (gI 10 g).flatMap intE := fun g => List.take_of_length_le (by rw [g1_len]; exact Nat.le_refl _)
    simp [-List.length_flatMap, -List.map_take, eF, t1, t2, a3, g1_len]
    refine WL.to (L_p2 (σ := σ) h (o := gI 10 (rep (rnd (edges s)) k id)) s.l.length 0 (rep (rnd (edges s)) k id) (by omega)) (by simp) rfl ?_
    rintro x e σ' ⟨hs, rfl, g1, g2, g3, g5⟩
    have hs := hs.symm
    subst hs
    rw [List.drop_zero, ← rnd_eq] at g3
    simp only [z13] at g2
    have hE := eqK_ints 10 (gI 10 (rnd (edges s) (rep (rnd (edges s)) k id))) (gI 10 (rep (rnd (edges s)) k id)) (by simp) (by simp)
    rw [show List.replicate 10 (some IntKind.i64) = [some .i64, some .i64, some .i64, some .i64, some .i64, some .i64, some .i64, some .i64, some .i64, some .i64] from rfl] at hE
    simp only [Surv.enc] at g1
    by_cases hq : gI 10 (rnd (edges s) (rep (rnd (edges s)) k id)) = gI 10 (rep (rnd (edges s)) k id)
    · have hfix : rnd (edges s) (rep (rnd (edges s)) k id) = rep (rnd (edges s)) k id := by
        funext z
        by_cases hz : z < 10
        · exact gI_eq.1 hq z hz
        · exact rnd_out (edges_lt h) _ (by have := h.w; omega)
      have hG : rep (rnd (edges s)) k id = Gr s := by
        have : Gr s = rep (rnd (edges s)) (m + 1) (rep (rnd (edges s)) k id) := by
          unfold Gr
          rw [← hk, Nat.add_comm k (m + 1), rep_add]
        rw [this, rep_fix hfix]
      rw [hfix, hG] at g3 hE
      rw [hG] at g5
      simp [-List.length_flatMap, -List.map_take, eF, g1, g2, g3, g5, t0, t1, t2, a3, g1_len, hE]
    · rw [decide_eq_false hq] at hE
      have ih := ih (k + 1) (by omega)
      simp only [rep] at ih
      generalize rnd (edges s) (rep (rnd (edges s)) k id) = g' at *
      generalize rep (rnd (edges s)) k id = g0 at *
      simp [-List.length_flatMap, -List.map_take, eF, g1, g2, g3, g5, t0, t1, t2, a3, g1_len, hE]
      exact WL.to ih (by simp [z13]) rfl fun x e σ' hh => hh
theorem C_groups {s : Surv} (h : Trial.Sv s) : lim T (.call false i_trial_Survey_groups [.agg [.int .i64 s.w, .int .i64 s.lv, .lst s.l.length (s.l.flatMap Seen.enc)]] σ) = some (.val (.agg (pv s (Gr s))) σ) := by
  refine call_of T_trial_Survey_groups e_trial_Survey_groups rfl ?_
  simp [-List.length_flatMap, -List.map_take, eF]
  refine WL.to (L_p0 (σ := [] :: σ) (s := s) 10 0 (by omega)) (by simp [z13]; rfl) rfl ?_
  rintro x e σ' ⟨rfl, rfl, g1, g2, g3⟩
  have e1 : pv s (upI 10) = pv s id := pv_congr fun z hz => by simp [upI, hz]
  rw [e1] at g3
  simp only [Surv.enc] at g1
  simp only [z13] at g2
  simp [g1, g2, g3]
  refine WL.to (L_p1 (σ := [] :: σ) h s.w.toNat 0 (by omega)) (by simp [z13, rep]) rfl ?_
  rintro x e σ' ⟨rfl, rfl, g2⟩
  have hc : D.cleanL (pv s (Gr s)) = true := by
    have h1 : D.cleanL (s.l.flatMap Seen.enc) = true := k_clean (fun x => by simp) _
    have h2 : D.cleanL ((gI 10 (Gr s)).flatMap intE) = true := k_clean (fun x => by simp) _
    simp [pv, D.cleanL, D.clean, h1, h2]
  have a3 := @pv_len s (Gr s)
  have t0 : (pv s (Gr s)).take 13 = pv s (Gr s) := List.take_of_length_le (by rw [pv_len]; exact Nat.le_refl _)
  simp [g2, hc, a3, t0]
theorem nat_of {w x : Int} (h : 0 ≤ x ∧ x < w) (hw : w ≤ 10) : ∃ F : Nat, x = F ∧ F < 10 := ⟨x.toNat, by omega, by omega⟩
theorem C_cl1 {s : Surv} {g : Lab} {F U : Nat} {d : Rg} (hF : F < 10) (hU : U < 10) :
    lim T (.call false i_trial_parted_clash_1 [.agg [.int .i64 F, .int .i64 U, .int .i64 d.lo, .int .i64 d.hi], .cref (pv s g)] σ) = some (.val (.bool (agin s ⟨F, U, d⟩ && decide (g F = g U))) σ) := by
  refine call_of T_trial_parted_clash_1 e_trial_parted_clash_1 rfl ?_
  have hA := fun σ => @C_apart σ s ⟨F, U, d⟩
  simp only [Seen.enc] at hA
  have t3 : (pv s g).take 3 = s.enc := rfl
  have a1 := pv_at (s := s) (g := g) hF
  have a2 := pv_at (s := s) (g := g) hU
  have hF' : (F : Int) < 10 := by omega
  have hU' : (U : Int) < 10 := by omega
  have a3 := @pv_len s g
  have hq : ((g F : Int) == (g U : Int)) = decide (g F = g U) := by rw [Bool.eq_iff_iff]; simp; omega
  cases ha : agin s ⟨F, U, d⟩
  · rw [ha] at hA
    simp [-List.length_flatMap, -List.map_take, eF, t3, hA, a3]
  · rw [ha] at hA
    simp [-List.length_flatMap, -List.map_take, eF, t3, hA, hF', hU', a1, a2, a3, hq]
def eltSeen : Elt Seen := eltAgg 4 Seen.enc (fun _ => rfl)
theorem C_clash1 {s : Surv} (h : Trial.Sv s) : lim T (.call false i_trial_parted_clash [.agg (pv s (Gr s))] σ) = some (.val (.int .i64 (clash s)) σ) := by
  refine call_of T_trial_parted_clash e_trial_parted_clash rfl ?_
  have hn := h.n
  have hI : ∀ σ, lim T (.call false i_slices_IndexFunc_trial_Seen [.lst s.l.length (s.l.flatMap Seen.enc), .fn i_trial_parted_clash_1 [] [.cref (pv s (Gr s))]] σ) = some (.val (.int .i64 (clash s)) σ) := fun σ =>
    index_of eltSeen T_slices_IndexFunc_trial_Seen (by omega) (.fn fun x hx σ => by
      have hv := h.l x hx
      have hw := h.w
      obtain ⟨f, t, d⟩ := x
      obtain ⟨F, rfl, hF⟩ := nat_of hv.1 hw.2
      obtain ⟨U, rfl, hU⟩ := nat_of hv.2.1 hw.2
      exact C_cl1 hF hU)
  have t4 : (pv s (Gr s)).drop 2 = .lst s.l.length (s.l.flatMap Seen.enc) :: (pv s (Gr s)).drop 3 := rfl
  have a3 := @pv_len s (Gr s)
  simp [-List.length_flatMap, -List.map_take, eF, t4, a3, hI]
def checkedD (s : Surv) : D := if sFault s = 0 then (if 0 ≤ clash s then .tup [.agg z13, .int .i64 9] else .tup [.agg (pv s (Gr s)), .int .i64 0]) else .tup [.agg z13, .int .i64 (sFault s)]
theorem pv_clean {s : Surv} {g : Lab} : D.cleanL (pv s g) = true := by
  have h1 : D.cleanL (s.l.flatMap Seen.enc) = true := k_clean (fun x => by simp) _
  have h2 : D.cleanL ((gI 10 g).flatMap intE) = true := k_clean (fun x => by simp) _
  simp [pv, D.cleanL, D.clean, h1, h2]
theorem C_checked {s : Surv} (hl : s.l.length ≤ 100000) : lim T (.call false i_trial_checked [.agg [.int .i64 s.w, .int .i64 s.lv, .lst s.l.length (s.l.flatMap Seen.enc)]] σ) = some (.val (checkedD s) σ) := by
  refine call_of T_trial_checked e_trial_checked rfl ?_
  have hf := fun σ => @C_checkS σ s hl
  by_cases h0 : sFault s = 0
  rotate_left
  · simp [-List.length_flatMap, -List.map_take, eF, hf, h0, checkedD, z13]
  have h := sFault_sv h0
  have hg := fun σ => @C_groups σ s h
  have hc := fun σ => @C_clash1 σ s h
  have a3 := @pv_len s (Gr s)
  have t0 : (pv s (Gr s)).take 13 = pv s (Gr s) := List.take_of_length_le (by rw [pv_len]; exact Nat.le_refl _)
  have a4 := @pv_clean s (Gr s)
  by_cases h1 : 0 ≤ clash s
  · simp [-List.length_flatMap, -List.map_take, eF, hf, h0, hg, hc, a3, t0, a4, h1, checkedD, z13]
  · simp [-List.length_flatMap, -List.map_take, eF, hf, h0, hg, hc, a3, t0, a4, h1, checkedD, z13]

theorem qN (a b : Nat) : ((a : Int) == (b : Int)) = decide (a = b) := by rw [Bool.eq_iff_iff]; simp; omega
set_option maxHeartbeats 2000000 in
theorem L_rel {s : Surv} (h : Trial.Sv s) {a b : Nat} (ha : a < 10) (hb : b < 10) : ∀ (m i : Nat), i + m = s.l.length →
    WL T [1, 2, 3, 22, 23, 24] false f_trial_parted_relation_l10 [(1, .int .i64 a), (2, .int .i64 b), (3, .cref (pv s (Gr s))), (22, .lst s.l.length (s.l.flatMap Seen.enc)), (23, .int .i64 s.l.length), (24, .int .i64 i)] σ
      (fun x e σ' => σ' = σ ∧ if anyB (s.l.drop i) (against s a b) then x = .ret ∧ get e 6 = .int .u8 0 else x = .exit 0)
  | 0, i, hi => by
    refine WL_step e_trial_parted_relation_l10 ?_
    have h1 : ¬ i < s.l.length := by omega
    have h2 : s.l.drop i = [] := List.drop_eq_nil_of_le (by omega)
    simp [-List.length_flatMap, -List.map_take, eF, h1, h2, anyB]
  | m + 1, i, hi => by
    refine WL_step e_trial_parted_relation_l10 ?_
    have h1 : i < s.l.length := by omega
    obtain ⟨x, hx⟩ : ∃ x, s.l[i]? = some x := ⟨_, List.getElem?_eq_getElem h1⟩
    have hn := h.n
    have hw := h.w
    have h4 := wnext h1 (by omega)
    have hv := h.l x (List.mem_of_getElem? hx)
    have ih := L_rel h ha hb m (i + 1) (by omega)
    have h2 := flat_at (f := Seen.enc) (w := 4) (fun _ => rfl) hx
    have hA := fun σ => @C_apart σ s x
    have e1 : anyB (s.l.drop i) (against s a b) = (against s a b x || anyB (s.l.drop (i + 1)) (against s a b)) := by rw [dropS hx]; rfl
    rw [e1]
    obtain ⟨f, t, d⟩ := x
    obtain ⟨F, rfl, hF⟩ := nat_of hv.1 hw.2
    obtain ⟨U, rfl, hU⟩ := nat_of hv.2.1 hw.2
    have a1 := pv_at (s := s) (g := Gr s) hF
    have a2 := pv_at (s := s) (g := Gr s) hU
    have b1 := pv_at (s := s) (g := Gr s) ha
    have b2 := pv_at (s := s) (g := Gr s) hb
    have lF : (F : Int) < 10 := by omega
    have lU : (U : Int) < 10 := by omega
    have la : (a : Int) < 10 := by omega
    have lb : (b : Int) < 10 := by omega
    have a3 := @pv_len s (Gr s)
    have t3 : (pv s (Gr s)).take 3 = s.enc := rfl
    simp only [Seen.enc] at hA h2
    cases hg : agin s ⟨F, U, d⟩
    · have e2 : against s a b ⟨F, U, d⟩ = false := by simp [against, hg]
      rw [hg] at hA
      rw [e2, Bool.false_or]
      simp [-List.length_flatMap, -List.map_take, eF, h1, h2, h4, hA, lF, lU, a1, a2, a3, t3]
      exact WL.to ih (by simp) rfl fun x e σ' hh => hh
    · rw [hg] at hA
      have e2 : against s a b ⟨F, U, d⟩ = ((decide (Gr s F = Gr s a) && decide (Gr s U = Gr s b)) || (decide (Gr s F = Gr s b) && decide (Gr s U = Gr s a))) := by simp [against, hg]
      rw [e2]
      obtain ⟨p1, hp1⟩ : ∃ p, p = decide (Gr s F = Gr s a) := ⟨_, rfl⟩
      obtain ⟨p2, hp2⟩ : ∃ p, p = decide (Gr s U = Gr s b) := ⟨_, rfl⟩
      obtain ⟨p3, hp3⟩ : ∃ p, p = decide (Gr s F = Gr s b) := ⟨_, rfl⟩
      obtain ⟨p4, hp4⟩ : ∃ p, p = decide (Gr s U = Gr s a) := ⟨_, rfl⟩
      have q1 : ((Gr s F : Int) == (Gr s a : Int)) = p1 := by rw [qN, hp1]
      have q2 : ((Gr s U : Int) == (Gr s b : Int)) = p2 := by rw [qN, hp2]
      have q3 : ((Gr s F : Int) == (Gr s b : Int)) = p3 := by rw [qN, hp3]
      have q4 : ((Gr s U : Int) == (Gr s a : Int)) = p4 := by rw [qN, hp4]
      rw [← hp1, ← hp2, ← hp3, ← hp4]
      clear hp1 hp2 hp3 hp4 e2
      cases p1
      · cases p3
        · rw [show (false && p2 || false && p4) = false by simp, Bool.false_or]
          simp [-List.length_flatMap, -List.map_take, eF, h1, h2, h4, hA, lF, lU, la, lb, a1, a2, b1, b2, a3, t3, q1, q2, q3, q4]
          exact WL.to ih (by simp) rfl fun x e σ' hh => hh
        · cases p4
          · rw [show (false && p2 || true && false) = false by simp, Bool.false_or]
            simp [-List.length_flatMap, -List.map_take, eF, h1, h2, h4, hA, lF, lU, la, lb, a1, a2, b1, b2, a3, t3, q1, q2, q3, q4]
            exact WL.to ih (by simp) rfl fun x e σ' hh => hh
          · rw [show (false && p2 || true && true) = true by simp, Bool.true_or]
            simp [-List.length_flatMap, -List.map_take, eF, h1, h2, h4, hA, lF, lU, la, lb, a1, a2, b1, b2, a3, t3, q1, q2, q3, q4]
      · cases p2
        · cases p3
          · rw [show (true && false || false && p4) = false by simp, Bool.false_or]
            simp [-List.length_flatMap, -List.map_take, eF, h1, h2, h4, hA, lF, lU, la, lb, a1, a2, b1, b2, a3, t3, q1, q2, q3, q4]
            exact WL.to ih (by simp) rfl fun x e σ' hh => hh
          · cases p4
            · rw [show (true && false || true && false) = false by simp, Bool.false_or]
              simp [-List.length_flatMap, -List.map_take, eF, h1, h2, h4, hA, lF, lU, la, lb, a1, a2, b1, b2, a3, t3, q1, q2, q3, q4]
              exact WL.to ih (by simp) rfl fun x e σ' hh => hh
            · rw [show (true && false || true && true) = true by simp, Bool.true_or]
              simp [-List.length_flatMap, -List.map_take, eF, h1, h2, h4, hA, lF, lU, la, lb, a1, a2, b1, b2, a3, t3, q1, q2, q3, q4]
        · rw [show (true && true || p3 && p4) = true by simp, Bool.true_or]
          simp [-List.length_flatMap, -List.map_take, eF, h1, h2, h4, hA, lF, lU, la, lb, a1, a2, b1, b2, a3, t3, q1, q2, q3, q4]
theorem C_relation {s : Surv} (h : Trial.Sv s) {a b : Nat} (ha : a < 10) (hb : b < 10) : lim T (.call false i_trial_parted_relation [.agg (pv s (Gr s)), .int .i64 a, .int .i64 b] σ) = some (.val (.int .u8 (relOf s a b)) σ) := by
  refine call_of T_trial_parted_relation e_trial_parted_relation rfl ?_
  have b1 := pv_at (s := s) (g := Gr s) ha
  have b2 := pv_at (s := s) (g := Gr s) hb
  have la : (a : Int) < 10 := by omega
  have lb : (b : Int) < 10 := by omega
  have a3 := @pv_len s (Gr s)
  have hn := h.n
  unfold relOf
  by_cases hq : Gr s a = Gr s b
  · simp [-List.length_flatMap, -List.map_take, eF, la, lb, b1, b2, a3, qN, hq]
  · have t4 : (pv s (Gr s)).drop 2 = .lst s.l.length (s.l.flatMap Seen.enc) :: (pv s (Gr s)).drop 3 := rfl
    simp [-List.length_flatMap, -List.map_take, eF, la, lb, b1, b2, a3, qN, hq, t4]
    refine WL.to (L_rel (σ := [] :: σ) h ha hb s.l.length 0 (by omega)) (by simp) rfl ?_
    rintro x e σ' ⟨rfl, hh⟩
    rw [List.drop_zero] at hh
    cases hA : anyB s.l (against s a b)
    · rw [hA] at hh
      simp only [Bool.false_eq_true, if_false] at hh
      subst hh
      simp [-List.length_flatMap, -List.map_take, eF, hq]
    · rw [hA] at hh
      simp only [if_true] at hh
      obtain ⟨rfl, g6⟩ := hh
      simp [g6, hq]

@[simp] def u8E (n : Int) : List D := [.int .u8 n]
def relR (s : Surv) (W a : Nat) : List Int := (List.range W).map (relOf s a)
def rowD (s : Surv) (W a : Nat) : D := .lst W ((relR s W a).flatMap u8E)
def relM (s : Surv) (W : Nat) : List D := (List.range W).map (rowD s W)
@[simp] theorem relR_len {s : Surv} {W a : Nat} : (relR s W a).length = W := by simp [relR]
theorem relR_succ {s : Surv} {n a : Nat} : (relR s (n + 1) a).flatMap u8E = (relR s n a).flatMap u8E ++ [.int .u8 (relOf s a n)] := by simp [relR, List.range_succ]
theorem u1_len {s : Surv} {n a : Nat} : ((relR s n a).flatMap u8E).length = n := by
  have := flat_len (f := u8E) (w := 1) (fun _ => rfl) (relR s n a)
  simpa using this
theorem L_row {s : Surv} (h : Trial.Sv s) {W : Nat} (hW : s.w = W) {a : Nat} (ha : a < W) {L : Nat} {S : Stack} {n : Int} : ∀ (m b : Nat), b + m = W →
    WL T [1, 4, 6, 7, 8, 19, 20, 24, 25] false f_trial_Relations_l14 [(1, .cref s.enc), (4, .own 0 (pv s (Gr s))), (6, .sl L 0 a 0 a 1), (7, .int .i64 a), (8, .sl S.length 0 b 0 b 1), (19, .int .i64 s.w), (20, .int .i64 n), (24, .int .i64 s.w), (25, .int .i64 b)] ([.cells b ((relR s b a).flatMap u8E)] :: S)
      (fun x e σ' => σ' = [.cells W ((relR s W a).flatMap u8E)] :: S ∧ x = .exit 2 ∧ get e 1 = .cref s.enc ∧ get e 4 = .own 0 (pv s (Gr s)) ∧ get e 6 = .sl L 0 a 0 a 1 ∧ get e 8 = .sl S.length 0 W 0 W 1 ∧ get e 19 = .int .i64 s.w ∧ get e 20 = .int .i64 n)
  | 0, b, hb => by
    refine WL_step e_trial_Relations_l14 ?_
    have h1 : ¬ (b : Int) < s.w := by omega
    have h2 : b = W := by omega
    subst h2
    simp [-List.length_flatMap, -List.map_take, eF, h1]
  | m + 1, b, hb => by
    refine WL_step e_trial_Relations_l14 ?_
    have h1 : (b : Int) < s.w := by omega
    have hw := h.w
    have w1 := w64 (n := (b : Int) + 1) (by omega)
    have ih := L_row h hW ha (L := L) (S := S) (n := n) m (b + 1) (by omega)
    rw [relR_succ] at ih
    have hR := fun σ => @C_relation σ s h a b (by omega) (by omega)
    have t0 : (pv s (Gr s)).take 13 = pv s (Gr s) := List.take_of_length_le (by rw [pv_len]; exact Nat.le_refl _)
    have a3 := @pv_len s (Gr s)
    have u3 := @u1_len s b a
    have u4 : ((relR s b a).flatMap u8E).take b = (relR s b a).flatMap u8E := List.take_of_length_le (by rw [u3]; exact Nat.le_refl _)
    have h7 : b + 1 ≤ room := by unfold room; omega
    simp [-List.length_flatMap, -List.map_take, eF, h1, w1, hR, t0, a3, u3, u4, h7]
    exact WL.to ih (by simp) (by simp) fun x e σ' hh => hh
theorem rel_succ {s : Surv} {W a : Nat} : (List.range (a + 1)).map (rowD s W) = (List.range a).map (rowD s W) ++ [rowD s W a] := by simp [List.range_succ]
theorem sl_clean {s : Surv} : D.cleanL (s.l.flatMap Seen.enc) = true := k_clean (fun x => by simp) _
theorem L_rel17 {s : Surv} (h : Trial.Sv s) {W : Nat} (hW : s.w = W) (hσ : σ ≠ []) : ∀ (m a : Nat), a + m = W →
    WL T [1, 4, 6, 19, 20] true f_trial_Relations_l17 [(1, .cref s.enc), (4, .own 0 (pv s (Gr s))), (6, .sl σ.length 0 a 0 a 1), (19, .int .i64 s.w), (20, .int .i64 a)] ([.cells a ((List.range a).map (rowD s W))] :: σ)
      (fun x e σ' => σ' = [.cells W (relM s W)] :: σ ∧ x = .exit 0 ∧ get e 6 = .sl σ.length 0 W 0 W 1)
  | 0, a, hb => by
    refine WL_stepS e_trial_Relations_l17 ?_
    have h1 : ¬ (a : Int) < s.w := by omega
    have h2 : a = W := by omega
    subst h2
    simp [-List.length_flatMap, -List.map_take, eF, h1, pv_clean, sl_clean, relM]
  | m + 1, a, hb => by
    refine WL_stepS e_trial_Relations_l17 ?_
    have h1 : (a : Int) < s.w := by omega
    have hw := h.w
    have w1 := w64 (n := (a : Int) + 1) (by omega)
    have ih := L_rel17 h hW hσ m (a + 1) (by omega)
    rw [rel_succ] at ih
    simp [-List.length_flatMap, -List.map_take, eF, h1]
    refine WL.to (L_row h hW (a := a) (by omega) (L := σ.length) (S := [.cells a ((List.range a).map (rowD s W))] :: σ) (n := (a : Int)) W 0 (by omega)) (by simp) (by simp [relR]) ?_
    rintro x e σ' ⟨rfl, rfl, g1, g4, g6, g8, g19, g20⟩
    have u4 : ((List.range a).map (rowD s W)).take a = (List.range a).map (rowD s W) := List.take_of_length_le (by simp)
    have h7 : (a + 1) * 24 ≤ room := by unfold room; omega
    simp only [Surv.enc] at g1
    generalize hM : (List.range a).map (rowD s W) = M at *
    have hl : M.length = a := by rw [← hM]; simp
    have z1 : frz σ.length 16 (.sl (σ.length + 1) 0 W 0 W 1) ([.cells W ((relR s W a).flatMap u8E)] :: [.cells a M] :: σ) = (.lst W ((relR s W a).flatMap u8E), [.dead] :: [.cells a M] :: σ) := by
      have := Abs.k_out (f := u8E) (w := 1) (fun _ => rfl) (fun x => by simp) (l := relR s W a) (j := 0) (v := W) (bs := [.cells W ((relR s W a).flatMap u8E)]) (σ := [.cells a M] :: σ) (by simp) rfl
      simpa using this
    have rc : D.cleanL ((relR s W a).flatMap u8E) = true := k_clean (fun x => by simp) _
    simp [-List.length_flatMap, -List.map_take, eF, g1, g4, g6, g8, g19, g20, u4, h7, hl, w1, z1, pv_clean, sl_clean]
    exact WL.to ih (by simp) (by simp [rowD]) fun x e σ' hh => hh
def relD (s : Surv) : D := if sFault s = 0 then (if 0 ≤ clash s then .tup [.nils, .int .i64 9] else .tup [.lst s.w.toNat (relM s s.w.toNat), .int .i64 0]) else .tup [.nils, .int .i64 (sFault s)]
theorem rel_clean {s : Surv} {W n : Nat} : D.cleanL ((List.range n).map (rowD s W)) = true := by
  have key : ∀ l : List Nat, D.cleanL (l.map (rowD s W)) = true := by
    intro l
    induction l with
    | nil => rfl
    | cons a l ih =>
      have rc : D.cleanL ((relR s W a).flatMap u8E) = true := k_clean (fun x => by simp) _
      simp [rowD, D.cleanL, D.clean, rc, ih]
  exact key _
theorem C_Relations {s : Surv} (hl : s.l.length ≤ 100000) (hσ : σ ≠ []) : lim T (.call false i_trial_Relations [.agg [.int .i64 s.w, .int .i64 s.lv, .lst s.l.length (s.l.flatMap Seen.enc)]] σ) = some (.val (relD s) σ) := by
  refine call_of T_trial_Relations e_trial_Relations rfl ?_
  have hc := fun σ => @C_checked σ s hl
  simp only [checkedD] at hc
  by_cases h0 : sFault s = 0
  rotate_left
  · simp [-List.length_flatMap, -List.map_take, eF, hc, h0, relD, z13]
  have h := sFault_sv h0
  by_cases h1 : 0 ≤ clash s
  · simp [-List.length_flatMap, -List.map_take, eF, hc, h0, h1, relD, z13]
  have hw := h.w
  obtain ⟨W, hW⟩ : ∃ W : Nat, s.w = W := ⟨s.w.toNat, by omega⟩
  have e0 : s.w.toNat = W := by omega
  have t0 : (pv s (Gr s)).take 13 = pv s (Gr s) := List.take_of_length_le (by rw [pv_len]; exact Nat.le_refl _)
  have a3 := @pv_len s (Gr s)
  simp [-List.length_flatMap, -List.map_take, eF, hc, h0, h1, t0, a3]
  refine WL.to (L_rel17 (σ := σ) h hW hσ W 0 (by omega)) (by simp) (by simp) ?_
  rintro x e σ' ⟨rfl, rfl, g6⟩
  simp [-List.length_flatMap, -List.map_take, eF, g6, relD, h0, h1, e0]
  rw [frz_tup (by simp) (by omega)]
  have h3 : ¬ σ.length ≤ σ.length - 1 := by have := List.length_pos_iff.2 hσ; omega
  have h6 : (relM s W).take W = relM s W := List.take_of_length_le (by simp [relM])
  have h5 : D.cleanL (relM s W) = true := rel_clean
  simp only [frzL_cons, frzL_nil]
  rw [frz_sl h3 (cs := relM s W) (by simp) (by omega)]
  simp [h6, h5]
def pAt (ps : List Int) (i : Int) : Int := (ps[i.toNat]?).getD 0
def fitOk (s : Surv) (ps : List Int) (x : Seen) : Bool := !((sure s x && !decide (pAt ps x.f = pAt ps x.t)) || (agin s x && decide (pAt ps x.f = pAt ps x.t)))
theorem qI (a b : Int) : (a == b) = decide (a = b) := by rw [Bool.eq_iff_iff]; simp
theorem L_fit {s : Surv} (h : Trial.Sv s) {ps : List Int} (hp : (ps.length : Int) = s.w) : ∀ (m i : Nat), i + m = s.l.length →
    WL T [1, 2, 9, 10, 11] false f_trial_Survey_fits_l8 [(1, .lst ps.length (ps.flatMap intE)), (2, .cref s.enc), (9, .lst s.l.length (s.l.flatMap Seen.enc)), (10, .int .i64 s.l.length), (11, .int .i64 i)] σ
      (fun x e σ' => σ' = σ ∧ if allB (s.l.drop i) (fitOk s ps) then x = .exit 0 else x = .ret ∧ get e 4 = .bool false)
  | 0, i, hi => by
    refine WL_step e_trial_Survey_fits_l8 ?_
    have h1 : ¬ i < s.l.length := by omega
    have h2 : s.l.drop i = [] := List.drop_eq_nil_of_le (by omega)
    simp [-List.length_flatMap, -List.map_take, eF, h1, h2, allB]
  | m + 1, i, hi => by
    refine WL_step e_trial_Survey_fits_l8 ?_
    have h1 : i < s.l.length := by omega
    obtain ⟨x, hx⟩ : ∃ x, s.l[i]? = some x := ⟨_, List.getElem?_eq_getElem h1⟩
    have hn := h.n
    have hw := h.w
    have h4 := wnext h1 (by omega)
    have hv := h.l x (List.mem_of_getElem? hx)
    have ih := L_fit h hp m (i + 1) (by omega)
    have h2 := flat_at (f := Seen.enc) (w := 4) (fun _ => rfl) hx
    have hS := fun σ => @C_joined σ s x
    have hA := fun σ => @C_apart σ s x
    have e1 : allB (s.l.drop i) (fitOk s ps) = (fitOk s ps x && allB (s.l.drop (i + 1)) (fitOk s ps)) := by rw [dropS hx]; rfl
    rw [e1]
    have e2 : fitOk s ps x = !((sure s x && !decide (pAt ps x.f = pAt ps x.t)) || (agin s x && decide (pAt ps x.f = pAt ps x.t))) := rfl
    rw [e2]
    obtain ⟨f, t, d⟩ := x
    obtain ⟨F, rfl, hF⟩ := nat_of hv.1 hw.2
    obtain ⟨U, rfl, hU⟩ := nat_of hv.2.1 hw.2
    dsimp only at hv
    have lF : F < ps.length := by have := hv.1; omega
    have lU : U < ps.length := by have := hv.2.1; omega
    obtain ⟨a, ha⟩ : ∃ a, ps[F]? = some a := ⟨_, List.getElem?_eq_getElem lF⟩
    obtain ⟨b, hb⟩ : ∃ a, ps[U]? = some a := ⟨_, List.getElem?_eq_getElem lU⟩
    have a1 := flat_at (f := intE) (w := 1) (fun _ => rfl) ha
    have b1 := flat_at (f := intE) (w := 1) (fun _ => rfl) hb
    simp only [Nat.mul_one] at a1 b1
    have pa : pAt ps ({ f := (F : Int), t := (U : Int), d := d } : Seen).f = a := by simp [pAt, ha]
    have pb : pAt ps ({ f := (F : Int), t := (U : Int), d := d } : Seen).t = b := by simp [pAt, hb]
    rw [pa, pb]
    obtain ⟨p, hp'⟩ : ∃ p, p = decide (a = b) := ⟨_, rfl⟩
    have q1 : (a == b) = p := by rw [qI, hp']
    rw [← hp']
    clear hp' e1 e2 pa pb
    simp only [Seen.enc] at hS hA h2
    obtain ⟨sj, hsj⟩ : ∃ q, q = sure s ⟨F, U, d⟩ := ⟨_, rfl⟩
    obtain ⟨sa, hsa⟩ : ∃ q, q = agin s ⟨F, U, d⟩ := ⟨_, rfl⟩
    rw [← hsj] at hS ⊢
    rw [← hsa] at hA ⊢
    clear hsj hsa
    cases sj <;> cases sa <;> cases p <;> simp [-List.length_flatMap, -List.map_take, eF, h1, h2, h4, lF, lU, a1, b1, q1, hS, hA] <;> exact WL.to ih (by simp) rfl fun x e σ' hh => hh
theorem C_fits {s : Surv} (h : Trial.Sv s) {ps : List Int} (hp : (ps.length : Int) = s.w) : lim T (.call false i_trial_Survey_fits [.agg [.int .i64 s.w, .int .i64 s.lv, .lst s.l.length (s.l.flatMap Seen.enc)], .lst ps.length (ps.flatMap intE)] σ) = some (.val (.bool (allB s.l (fitOk s ps))) σ) := by
  refine call_of T_trial_Survey_fits e_trial_Survey_fits rfl ?_
  have hn := h.n
  simp [-List.length_flatMap, -List.map_take, eF]
  refine WL.to (L_fit (σ := [] :: σ) h hp s.l.length 0 (by omega)) (by simp) rfl ?_
  rintro x e σ' ⟨rfl, hh⟩
  rw [List.drop_zero] at hh
  cases hA : allB s.l (fitOk s ps)
  · rw [hA] at hh
    simp only [Bool.false_eq_true, if_false] at hh
    obtain ⟨rfl, g4⟩ := hh
    simp [g4]
  · rw [hA] at hh
    simp only [if_true] at hh
    subst hh
    simp [-List.length_flatMap, -List.map_take, eF]
theorem C_Fits {s : Surv} (hl : s.l.length ≤ 100000) {ps : List Int} : lim T (.call false i_trial_Fits [.agg [.int .i64 s.w, .int .i64 s.lv, .lst s.l.length (s.l.flatMap Seen.enc)], .lst ps.length (ps.flatMap intE)] σ) = some (.val (.bool (decide (sFault s = 0) && (decide ((ps.length : Int) = s.w) && allB s.l (fitOk s ps)))) σ) := by
  refine call_of T_trial_Fits e_trial_Fits rfl ?_
  have hf := fun σ => @C_checkS σ s hl
  by_cases h0 : sFault s = 0
  rotate_left
  · simp [-List.length_flatMap, -List.map_take, eF, hf, h0]
  have h := sFault_sv h0
  by_cases hp : (ps.length : Int) = s.w
  rotate_left
  · simp [-List.length_flatMap, -List.map_take, eF, hf, h0, hp]
  have hF := fun σ => @C_fits σ s h ps hp
  simp [-List.length_flatMap, -List.map_take, eF, hf, h0, hp, hF]

end Go.Proofs.Ytehandllpmlcoaa.Srv
