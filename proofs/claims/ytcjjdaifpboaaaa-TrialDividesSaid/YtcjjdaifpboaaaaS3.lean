/-
  The groups of the program.
-/
import Derived.Test.YtcjjdaifpboaaaaS2
set_option linter.unusedVariables false
set_option linter.unusedSimpArgs false
namespace Go.Proofs.Ytcjjdaifpboaaaa
open Go Go.Abs Go.Trial
variable {σ : Stack}

/-- A survey with labels. -/
def pv (s : Surv) (g : Lab) : List D := .int .i64 s.w :: .int .i64 s.lv :: .lst s.l.length (s.l.flatMap Seen.enc) :: (gI 10 g).flatMap intE
def z13 : List D := [.int .i64 0, .int .i64 0, .nils, .int .i64 0, .int .i64 0, .int .i64 0, .int .i64 0, .int .i64 0, .int .i64 0, .int .i64 0, .int .i64 0, .int .i64 0, .int .i64 0]
theorem pv_len {s : Surv} {g : Lab} : (pv s g).length = 13 := by simp only [pv, List.length_cons, g1_len]
theorem pv_at {s : Surv} {g : Lab} {i : Nat} (h : i < 10) : (pv s g).drop (3 + i) = .int .i64 (g i) :: (pv s g).drop (3 + i + 1) := by
  rw [show 3 + i + 1 = (i + 1) + 1 + 1 + 1 by omega, show 3 + i = i + 1 + 1 + 1 by omega]
  simp only [pv, List.drop_succ_cons]
  exact g1_at h
theorem pv_set {s : Surv} {g : Lab} {i m : Nat} (h : i < 10) : (pv s g).take (3 + i) ++ .int .i64 (m : Int) :: (pv s g).drop (3 + i + 1) = pv s (fun z => if z = i then m else g z) := by
  rw [show 3 + i + 1 = (i + 1) + 1 + 1 + 1 by omega, show 3 + i = i + 1 + 1 + 1 by omega]
  simp only [pv, List.drop_succ_cons, List.take_succ_cons, List.cons_append]
  rw [set1 (by simpa using h), gI_set]
theorem L_p2 {s : Surv} (h : Sv s) {o : List Int} : ∀ (m i : Nat) (g : Lab), i + m = s.l.length →
    WL T [1, 2, 3, 5, 22, 23, 24] false f_trial_Survey_groups_l16 [(1, .cref s.enc), (2, .own 0 z13), (3, .own 0 (pv s g)), (5, .own 0 (o.flatMap intE)), (22, .lst s.l.length (s.l.flatMap Seen.enc)), (23, .int .i64 s.l.length), (24, .int .i64 i)] σ
      (fun x e σ' => σ' = σ ∧ x = .exit 4 ∧ get e 1 = .cref s.enc ∧ get e 2 = .own 0 z13 ∧ get e 3 = .own 0 (pv s ((s.l.drop i).foldl (stpS s) g)) ∧ get e 5 = .own 0 (o.flatMap intE))
  | 0, i, g, hi => by
    refine WL_step e_trial_Survey_groups_l16 ?_
    have h1 : ¬ i < s.l.length := by omega
    have h2 : s.l.drop i = [] := List.drop_eq_nil_of_le (by omega)
    simp [-List.length_flatMap, -List.map_take, e_trial_Survey_groups_r0, e_trial_Survey_groups_r1, e_trial_Survey_groups_r2, e_trial_Survey_groups_r3, e_trial_Survey_groups_r4, e_trial_Survey_groups_r5, e_trial_Survey_groups_r6, e_trial_Survey_groups_r8, e_trial_Survey_groups_r9, e_trial_Survey_groups_r10, e_trial_Survey_groups_r11, e_trial_Survey_groups_r12, e_trial_Survey_groups_r13, e_trial_Survey_groups_r14, e_trial_Survey_groups_r15, e_trial_Survey_groups_r17, e_trial_Survey_groups_r18, h1, h2]
  | m + 1, i, g, hi => by
    refine WL_step e_trial_Survey_groups_l16 ?_
    have h1 : i < s.l.length := by omega
    obtain ⟨x, hx⟩ : ∃ x, s.l[i]? = some x := ⟨_, List.getElem?_eq_getElem h1⟩
    have hn := h.n
    have hw := h.w
    have h4 := wnext h1 (by omega)
    have hv := h.l x (List.mem_of_getElem? hx)
    rw [dropS hx, List.foldl_cons]
    have ih := L_p2 h (o := o) m (i + 1) (stpS s g x) (by omega)
    have h2 := flat_at (f := Seen.enc) (w := 4) (fun _ => rfl) hx
    have hS := fun σ => @C_joined σ s x
    cases hs : sure s x
    · have e1 : stpS s g x = g := by simp [stpS, hs]
      rw [e1] at ih ⊢
      rw [hs] at hS
      simp only [Seen.enc] at hS h2
      simp [-List.length_flatMap, -List.map_take, e_trial_Survey_groups_r0, e_trial_Survey_groups_r1, e_trial_Survey_groups_r2, e_trial_Survey_groups_r3, e_trial_Survey_groups_r4, e_trial_Survey_groups_r5, e_trial_Survey_groups_r6, e_trial_Survey_groups_r8, e_trial_Survey_groups_r9, e_trial_Survey_groups_r10, e_trial_Survey_groups_r11, e_trial_Survey_groups_r12, e_trial_Survey_groups_r13, e_trial_Survey_groups_r14, e_trial_Survey_groups_r15, e_trial_Survey_groups_r17, e_trial_Survey_groups_r18, h1, h2, h4, hS]
      exact WL.to ih (by simp) (by simp) fun x e σ' hh => hh
    · have e1 : stpS s g x = stp g (edge x) := by simp [stpS, hs]
      rw [e1] at ih ⊢
      rw [hs] at hS
      obtain ⟨f, t, d⟩ := x
      dsimp only at hv
      obtain ⟨F, rfl⟩ : ∃ F : Nat, f = F := ⟨f.toNat, by omega⟩
      obtain ⟨U, rfl⟩ : ∃ U : Nat, t = U := ⟨t.toNat, by omega⟩
      simp only [edge, Int.toNat_natCast] at ih ⊢
      have hF : F < 10 := by omega
      have hU : U < 10 := by omega
      have hF' : (F : Int) < 10 := by omega
      have hU' : (U : Int) < 10 := by omega
      have a1 := pv_at (s := s) (g := g) hF
      have a2 := pv_at (s := s) (g := g) hU
      have a3 := fun g => @pv_len s g
      have hm : min (g F : Int) (g U) = ((min (g F) (g U) : Nat) : Int) := by omega
      have s1 := fun g m => @pv_set s g F m hF
      have s2 := fun g m => @pv_set s g U m hU
      have s3 : (fun z => if z = U then min (g F) (g U) else if z = F then min (g F) (g U) else g z) = stp g (F, U) := by
        funext z
        unfold stp
        by_cases h1 : z = U <;> by_cases h2 : z = F <;> simp [h1, h2]
      have b1 : 3 + F + 1 ≤ 13 := by omega
      have b2 : 3 + U + 1 ≤ 13 := by omega
      simp only [Seen.enc] at hS h2
      generalize (min (g F) (g U) : Nat) = M at *
      simp [-List.length_flatMap, -List.map_take, e_trial_Survey_groups_r0, e_trial_Survey_groups_r1, e_trial_Survey_groups_r2, e_trial_Survey_groups_r3, e_trial_Survey_groups_r4, e_trial_Survey_groups_r5, e_trial_Survey_groups_r6, e_trial_Survey_groups_r8, e_trial_Survey_groups_r9, e_trial_Survey_groups_r10, e_trial_Survey_groups_r11, e_trial_Survey_groups_r12, e_trial_Survey_groups_r13, e_trial_Survey_groups_r14, e_trial_Survey_groups_r15, e_trial_Survey_groups_r17, e_trial_Survey_groups_r18, h1, h2, h4, hS, hF', hU', a1, a2, a3, hm, s1, s2, s3, b1, b2]
      exact WL.to ih (by simp) (by simp) fun x e σ' hh => hh
theorem pv_congr {s : Surv} {g g' : Lab} (h : ∀ z, z < 10 → g z = g' z) : pv s g = pv s g' := by
  have : gI 10 g = gI 10 g' := by
    unfold gI
    apply List.map_congr_left
    intro z hz
    rw [h z (by simpa using hz)]
  unfold pv
  rw [this]
def upI (i : Nat) : Lab := fun z => if z < i then z else 0
theorem L_p0 {s : Surv} : ∀ (m i : Nat), i + m = 10 →
    WL T [1, 2, 3, 11] false f_trial_Survey_groups_l7 [(1, .cref s.enc), (2, .own 0 z13), (3, .own 0 (pv s (upI i))), (11, .int .i64 i)] σ
      (fun x e σ' => σ' = σ ∧ x = .exit 0 ∧ get e 1 = .cref s.enc ∧ get e 2 = .own 0 z13 ∧ get e 3 = .own 0 (pv s (upI 10)))
  | 0, i, hi => by
    refine WL_step e_trial_Survey_groups_l7 ?_
    have h1 : ¬ (i : Int) < 10 := by omega
    have h2 : i = 10 := by omega
    subst h2
    simp [-List.length_flatMap, -List.map_take, e_trial_Survey_groups_r0, e_trial_Survey_groups_r1, e_trial_Survey_groups_r2, e_trial_Survey_groups_r3, e_trial_Survey_groups_r4, e_trial_Survey_groups_r5, e_trial_Survey_groups_r6, e_trial_Survey_groups_r8, e_trial_Survey_groups_r9, e_trial_Survey_groups_r10, e_trial_Survey_groups_r11, e_trial_Survey_groups_r12, e_trial_Survey_groups_r13, e_trial_Survey_groups_r14, e_trial_Survey_groups_r15, e_trial_Survey_groups_r17, e_trial_Survey_groups_r18, h1]
  | m + 1, i, hi => by
    refine WL_step e_trial_Survey_groups_l7 ?_
    have h1 : (i : Int) < 10 := by omega
    have w1 := w64 (n := (i : Int) + 1) (by omega)
    have ih := L_p0 (s := s) m (i + 1) (by omega)
    have s1 := @pv_set s (upI i) i i (by omega)
    have e1 : (fun z => if z = i then i else upI i z) = upI (i + 1) := by
      funext z
      unfold upI
      by_cases h1 : z = i
      · subst h1; simp
      · by_cases h2 : z < i
        · rw [if_neg h1, if_pos h2, if_pos (by omega)]
        · rw [if_neg h1, if_neg h2, if_neg (by omega)]
    rw [e1] at s1
    have a3 := fun g => @pv_len s g
    have b1 : 3 + i + 1 ≤ 13 := by omega
    simp [-List.length_flatMap, -List.map_take, e_trial_Survey_groups_r0, e_trial_Survey_groups_r1, e_trial_Survey_groups_r2, e_trial_Survey_groups_r3, e_trial_Survey_groups_r4, e_trial_Survey_groups_r5, e_trial_Survey_groups_r6, e_trial_Survey_groups_r8, e_trial_Survey_groups_r9, e_trial_Survey_groups_r10, e_trial_Survey_groups_r11, e_trial_Survey_groups_r12, e_trial_Survey_groups_r13, e_trial_Survey_groups_r14, e_trial_Survey_groups_r15, e_trial_Survey_groups_r17, e_trial_Survey_groups_r18, h1, w1, s1, a3, b1]
    exact WL.to ih (by simp) (by simp) fun x e σ' hh => hh
theorem eqK_ints : ∀ (n : Nat) (a b : List Int), a.length = n → b.length = n → eqK (List.replicate n (some .i64)) (a.flatMap intE) (b.flatMap intE) = some (decide (a = b))
  | 0, [], [], _, _ => rfl
  | n + 1, x :: a, y :: b, ha, hb => by
    have ih := eqK_ints n a b (by simpa using ha) (by simpa using hb)
    simp only [List.replicate_succ, List.flatMap_cons, intE, List.cons_append, List.nil_append, eqK, and_self, if_true, ih, Option.map_some]
    congr 1
    by_cases h1 : x = y
    · subst h1; simp
    · simp [h1]
theorem gI_eq {n : Nat} {g g' : Lab} : gI n g = gI n g' ↔ ∀ z, z < n → g z = g' z := by
  constructor
  · intro h z hz
    have a := gI_at (g := g) hz
    rw [h, gI_at hz] at a
    simp at a
    omega
  · intro h
    unfold gI
    apply List.map_congr_left
    intro z hz
    rw [h z (by simpa using hz)]
theorem L_p1 {s : Surv} (h : Sv s) : ∀ (m k : Nat), k + m = s.w.toNat →
    WL T [1, 2, 3] false f_trial_Survey_groups_l19 [(1, .cref s.enc), (2, .own 0 z13), (3, .own 0 (pv s (rep (rnd (edges s)) k id)))] σ
      (fun x e σ' => σ' = σ ∧ x = .ret ∧ get e 2 = .own 0 (pv s (Gr s))) := by
  intro m
  induction m with
  | zero =>
    intro k hk
    have hk : k = s.w.toNat := by omega
    subst hk
    refine WL_step e_trial_Survey_groups_l19 ?_
    have a3 := fun g => @pv_len s g
    have t0 : ∀ g, (pv s g).take 13 = pv s g := fun g => List.take_of_length_le (by rw [pv_len]; exact Nat.le_refl _)
    have t1 : ∀ g, (pv s g).drop 3 = (gI 10 g).flatMap intE := fun g => rfl
    have t2 : ∀ g, ((gI 10 g).flatMap intE).take 10 = (gI 10 g).flatMap intE := fun g => List.take_of_length_le (by rw [g1_len]; exact Nat.le_refl _)
    simp [-List.length_flatMap, -List.map_take, e_trial_Survey_groups_r0, e_trial_Survey_groups_r1, e_trial_Survey_groups_r2, e_trial_Survey_groups_r3, e_trial_Survey_groups_r4, e_trial_Survey_groups_r5, e_trial_Survey_groups_r6, e_trial_Survey_groups_r8, e_trial_Survey_groups_r9, e_trial_Survey_groups_r10, e_trial_Survey_groups_r11, e_trial_Survey_groups_r12, e_trial_Survey_groups_r13, e_trial_Survey_groups_r14, e_trial_Survey_groups_r15, e_trial_Survey_groups_r17, e_trial_Survey_groups_r18, t1, t2, a3, g1_len]
    refine WL.to (L_p2 (σ := σ) h (o := gI 10 (rep (rnd (edges s)) s.w.toNat id)) s.l.length 0 (rep (rnd (edges s)) s.w.toNat id) (by omega)) (by simp) rfl ?_
    rintro x e σ' ⟨rfl, rfl, g1, g2, g3, g5⟩
    rw [List.drop_zero, ← rnd_eq] at g3
    have e1 : rnd (edges s) (rep (rnd (edges s)) s.w.toNat id) = Gr s := settled (edges_lt h)
    rw [e1] at g3
    have e2 : rep (rnd (edges s)) s.w.toNat id = Gr s := rfl
    rw [e2] at g5
    simp only [z13] at g2
    have hE := eqK_ints 10 (gI 10 (Gr s)) (gI 10 (Gr s)) (by simp) (by simp)
    rw [show List.replicate 10 (some IntKind.i64) = [some .i64, some .i64, some .i64, some .i64, some .i64, some .i64, some .i64, some .i64, some .i64, some .i64] from rfl] at hE
    simp only [Surv.enc] at g1
    simp [-List.length_flatMap, -List.map_take, e_trial_Survey_groups_r17, e_trial_Survey_groups_r18, g1, g2, g3, g5, t0, t1, t2, a3, g1_len, hE]
  | succ m ih =>
    intro k hk
    refine WL_step e_trial_Survey_groups_l19 ?_
    have a3 := fun g => @pv_len s g
    have t0 : ∀ g, (pv s g).take 13 = pv s g := fun g => List.take_of_length_le (by rw [pv_len]; exact Nat.le_refl _)
    have t1 : ∀ g, (pv s g).drop 3 = (gI 10 g).flatMap intE := fun g => rfl
    have t2 : ∀ g, ((gI 10 g).flatMap intE).take 10 = (gI 10 g).flatMap intE := fun g => List.take_of_length_le (by rw [g1_len]; exact Nat.le_refl _)
    simp [-List.length_flatMap, -List.map_take, e_trial_Survey_groups_r0, e_trial_Survey_groups_r1, e_trial_Survey_groups_r2, e_trial_Survey_groups_r3, e_trial_Survey_groups_r4, e_trial_Survey_groups_r5, e_trial_Survey_groups_r6, e_trial_Survey_groups_r8, e_trial_Survey_groups_r9, e_trial_Survey_groups_r10, e_trial_Survey_groups_r11, e_trial_Survey_groups_r12, e_trial_Survey_groups_r13, e_trial_Survey_groups_r14, e_trial_Survey_groups_r15, e_trial_Survey_groups_r17, e_trial_Survey_groups_r18, t1, t2, a3, g1_len]
    refine WL.to (L_p2 (σ := σ) h (o := gI 10 (rep (rnd (edges s)) k id)) s.l.length 0 (rep (rnd (edges s)) k id) (by omega)) (by simp) rfl ?_
    rintro x e σ' ⟨hs, rfl, g1, g2, g3, g5⟩
    have hs := hs.symm
    subst hs
    rw [List.drop_zero, ← rnd_eq] at g3
    simp only [z13] at g2
    have hE := eqK_ints 10 (gI 10 (rnd (edges s) (rep (rnd (edges s)) k id))) (gI 10 (rep (rnd (edges s)) k id)) (by simp) (by simp)
    rw [show List.replicate 10 (some IntKind.i64) = [some .i64, some .i64, some .i64, some .i64, some .i64, some .i64, some .i64, some .i64, some .i64, some .i64] from rfl] at hE
    simp only [Surv.enc] at g1
    by_cases hq : gI 10 (rnd (edges s) (rep (rnd (edges s)) k id)) = gI 10 (rep (rnd (edges s)) k id)
    · have hfix : rnd (edges s) (rep (rnd (edges s)) k id) = rep (rnd (edges s)) k id := by
        funext z
        by_cases hz : z < 10
        · exact gI_eq.1 hq z hz
        · exact rnd_out (edges_lt h) _ (by have := h.w; omega)
      have hG : rep (rnd (edges s)) k id = Gr s := by
        have : Gr s = rep (rnd (edges s)) (m + 1) (rep (rnd (edges s)) k id) := by
          unfold Gr
          rw [← hk, Nat.add_comm k (m + 1), rep_add]
        rw [this, rep_fix hfix]
      rw [hfix, hG] at g3 hE
      rw [hG] at g5
      simp [-List.length_flatMap, -List.map_take, e_trial_Survey_groups_r17, e_trial_Survey_groups_r18, g1, g2, g3, g5, t0, t1, t2, a3, g1_len, hE]
    · rw [decide_eq_false hq] at hE
      have ih := ih (k + 1) (by omega)
      simp only [rep] at ih
      generalize rnd (edges s) (rep (rnd (edges s)) k id) = g' at *
      generalize rep (rnd (edges s)) k id = g0 at *
      simp [-List.length_flatMap, -List.map_take, e_trial_Survey_groups_r17, e_trial_Survey_groups_r18, g1, g2, g3, g5, t0, t1, t2, a3, g1_len, hE]
      exact WL.to ih (by simp [z13]) rfl fun x e σ' hh => hh
theorem C_groups {s : Surv} (h : Sv s) : lim T (.call false i_trial_Survey_groups [.agg [.int .i64 s.w, .int .i64 s.lv, .lst s.l.length (s.l.flatMap Seen.enc)]] σ) = some (.val (.agg (pv s (Gr s))) σ) := by
  refine call_of T_trial_Survey_groups e_trial_Survey_groups rfl ?_
  simp [-List.length_flatMap, -List.map_take, e_trial_Survey_groups_r0, e_trial_Survey_groups_r1, e_trial_Survey_groups_r2, e_trial_Survey_groups_r3, e_trial_Survey_groups_r4, e_trial_Survey_groups_r5, e_trial_Survey_groups_r6, e_trial_Survey_groups_r8, e_trial_Survey_groups_r9, e_trial_Survey_groups_r10, e_trial_Survey_groups_r11, e_trial_Survey_groups_r12, e_trial_Survey_groups_r13, e_trial_Survey_groups_r14, e_trial_Survey_groups_r15, e_trial_Survey_groups_r17, e_trial_Survey_groups_r18]
  refine WL.to (L_p0 (σ := [] :: σ) (s := s) 10 0 (by omega)) (by simp [z13]; rfl) rfl ?_
  rintro x e σ' ⟨rfl, rfl, g1, g2, g3⟩
  have e1 : pv s (upI 10) = pv s id := pv_congr fun z hz => by simp [upI, hz]
  rw [e1] at g3
  simp only [Surv.enc] at g1
  simp only [z13] at g2
  simp [g1, g2, g3]
  refine WL.to (L_p1 (σ := [] :: σ) h s.w.toNat 0 (by omega)) (by simp [z13, rep]) rfl ?_
  rintro x e σ' ⟨rfl, rfl, g2⟩
  have hc : D.cleanL (pv s (Gr s)) = true := by
    have h1 : D.cleanL (s.l.flatMap Seen.enc) = true := k_clean (fun x => by simp) _
    have h2 : D.cleanL ((gI 10 (Gr s)).flatMap intE) = true := k_clean (fun x => by simp) _
    simp [pv, D.cleanL, D.clean, h1, h2]
  have a3 := @pv_len s (Gr s)
  have t0 : (pv s (Gr s)).take 13 = pv s (Gr s) := List.take_of_length_le (by rw [pv_len]; exact Nat.le_refl _)
  simp [g2, hc, a3, t0]
end Go.Proofs.Ytcjjdaifpboaaaa
