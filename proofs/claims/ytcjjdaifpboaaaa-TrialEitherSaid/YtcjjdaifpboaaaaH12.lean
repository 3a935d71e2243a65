/-
  The blamed step; where there are conflicts everywhere no curve agrees, and otherwise one does.
-/
import Derived.Test.YtcjjdaifpboaaaaH11
set_option linter.unusedVariables false
set_option linter.unusedSimpArgs false
namespace Go.Proofs.Ytcjjdaifpboaaaa
open Go Go.Abs Go.Trial
variable {σ : Stack}

theorem drop_at {α : Type} {l : List α} {j : Nat} {x : α} (hx : l[j]? = some x) : l.drop j = x :: l.drop (j + 1) := by
  have h1 := (List.getElem?_eq_some_iff.1 hx).1
  rw [List.drop_eq_getElem_cons h1]
  rw [List.getElem?_eq_getElem h1] at hx; cases hx; rfl
theorem rowF_none {l : List Rg} {a : Rg} : ∀ (m j : Nat), j + m = l.length → (rowF l a m j = none ↔ ∀ x ∈ l.drop j, a.lo ≤ x.hi)
  | 0, j, h => by rw [List.drop_eq_nil_of_le (by omega)]; simp [rowF]
  | m + 1, j, h => by
    obtain ⟨x, hx⟩ : ∃ x, l[j]? = some x := ⟨_, List.getElem?_eq_getElem (by omega)⟩
    have ih := rowF_none (l := l) (a := a) m (j + 1) (by omega)
    rw [drop_at hx]
    by_cases hc : x.hi < a.lo
    · simp [rowF, hx, hc]; intro hh; omega
    · simp [rowF, hx, hc, ih]; intro _; omega
theorem apF_none {l : List Rg} : ∀ (m i : Nat), i + m = l.length → (apF l m i = none ↔ ∀ a ∈ l.drop i, ∀ x ∈ l, a.lo ≤ x.hi)
  | 0, j, h => by rw [List.drop_eq_nil_of_le (by omega)]; simp [apF]
  | m + 1, i, h => by
    obtain ⟨x, hx⟩ : ∃ x, l[i]? = some x := ⟨_, List.getElem?_eq_getElem (by omega)⟩
    have ih := apF_none (l := l) m (i + 1) (by omega)
    have hr := rowF_none (l := l) (a := x) l.length 0 (by omega)
    rw [List.drop_zero] at hr
    rw [drop_at hx]
    cases hc : rowF l x l.length 0 with
    | none =>
      rw [hc] at hr
      have h1 := hr.1 rfl
      simp only [apF, hx, hc, ih, List.mem_cons, forall_eq_or_imp]
      exact ⟨fun h2 => ⟨h1, h2⟩, fun h2 => h2.2⟩
    | some k =>
      rw [hc] at hr
      simp only [apF, hx, hc, List.mem_cons, forall_eq_or_imp]
      constructor
      · intro h2; cases h2
      · intro h2; exact absurd (hr.2 h2.1) (by simp)
theorem fold_lo {n : Int} : ∀ (l : List Rg) (r : Rg), (l.foldl meet r).lo ≤ n ↔ r.lo ≤ n ∧ ∀ x ∈ l, x.lo ≤ n
  | [], r => by simp
  | y :: l, r => by
    simp only [List.foldl_cons, fold_lo l, List.mem_cons, forall_eq_or_imp]
    have e : (meet r y).lo = max r.lo y.lo := rfl
    rw [e]
    constructor
    · rintro ⟨h1, h2⟩; exact ⟨by omega, by omega, h2⟩
    · rintro ⟨h1, h2, h3⟩; exact ⟨by omega, h3⟩
theorem fold_hi {n : Int} : ∀ (l : List Rg) (r : Rg), n ≤ (l.foldl meet r).hi ↔ n ≤ r.hi ∧ ∀ x ∈ l, n ≤ x.hi
  | [], r => by simp
  | y :: l, r => by
    simp only [List.foldl_cons, fold_hi l, List.mem_cons, forall_eq_or_imp]
    have e : (meet r y).hi = min r.hi y.hi := rfl
    rw [e]
    constructor
    · rintro ⟨h1, h2⟩; exact ⟨by omega, by omega, h2⟩
    · rintro ⟨h1, h2, h3⟩; exact ⟨by omega, h3⟩
theorem helly {t : Test} {b c : Int} : apart (roomsOf t b c) = none ↔ (setOf t b c).lo ≤ (setOf t b c).hi := by
  unfold apart
  rw [apF_none _ 0 (by omega), List.drop_zero]
  have e : setOf t b c = (t.st.map (rmS b c)).foldl meet t.a := rfl
  rw [e, fold_lo]
  simp only [fold_hi]
  simp only [roomsOf, List.mem_cons, forall_eq_or_imp]
theorem allC_iff {t : Test} : allC t (pairs t) = (sets t).isEmpty := by
  rw [Bool.eq_iff_iff]
  simp only [allC, List.all_eq_true, List.isEmpty_iff]
  constructor
  · intro h
    rw [List.eq_nil_iff_forall_not_mem]
    intro x hx
    obtain ⟨_, h2, h3, h4⟩ := sets_mem hx
    have := h _ h2
    rw [h3] at h4
    rw [helly.2 h4] at this
    cases this
  · intro h p hp
    cases ha : apart (roomsOf t p.1 p.2) with
    | some q => rfl
    | none =>
      have := mem_sets (t := t) (b := p.1) (c := p.2) hp (helly.1 ha)
      rw [h] at this
      simp at this

/-! ### The blamed step -/

def tk (t : Test) (n : Nat) : Test := ⟨t.a, t.b, t.c, t.st.take n⟩
theorem tk_tv {t : Test} (h : Tv t) (n : Nat) : Tv (tk t n) :=
  ⟨by have := h.n; simp only [tk, List.length_take]; omega, h.a, h.b, h.c, h.bw, h.cw, fun s hs => h.s s (List.mem_of_mem_take hs)⟩
theorem tk_all (t : Test) : tk t t.st.length = t := by cases t; simp [tk]
theorem tk_sub {t : Test} {n : Nat} (h : sets t ≠ []) : sets (tk t n) ≠ [] := by
  obtain ⟨x, hx⟩ := List.exists_mem_of_ne_nil _ h
  obtain ⟨_, h2, h3, h4⟩ := sets_mem hx
  rw [h3] at h4
  have e : setOf t x.1.b x.1.c = (t.st.map (rmS x.1.b x.1.c)).foldl meet t.a := rfl
  rw [e, fold_lo] at h4
  simp only [fold_hi] at h4
  have h5 : (setOf (tk t n) x.1.b x.1.c).lo ≤ (setOf (tk t n) x.1.b x.1.c).hi := by
    have e : setOf (tk t n) x.1.b x.1.c = ((t.st.take n).map (rmS x.1.b x.1.c)).foldl meet t.a := rfl
    rw [e, fold_lo]
    simp only [fold_hi]
    have hm : ∀ y ∈ (t.st.take n).map (rmS x.1.b x.1.c), y ∈ t.st.map (rmS x.1.b x.1.c) := fun y hy => by
      simp only [List.mem_map] at hy ⊢
      obtain ⟨s, hs, rfl⟩ := hy
      exact ⟨s, List.mem_of_mem_take hs, rfl⟩
    exact ⟨⟨h4.1.1, fun y hy => h4.1.2 y (hm y hy)⟩, fun y hy => ⟨(h4.2 y (hm y hy)).1, fun z hz => (h4.2 y (hm y hy)).2 z (hm z hz)⟩⟩
  intro h6
  have := mem_sets (t := tk t n) (b := x.1.b) (c := x.1.c) h2 h5
  rw [h6] at this
  simp at this
def blF (t : Test) : Nat → Nat → Option Nat
  | 0, _ => none
  | m + 1, i => if (sets (tk t (i + 1))).isEmpty then some i else blF t m (i + 1)
def bl (t : Test) : Option Nat := blF t t.st.length 0
theorem tk_flat : ∀ (l : List Step) (n : Nat), (l.take n).flatMap Step.enc = (l.flatMap Step.enc).take (n * 3)
  | [], n => by simp
  | a :: l, 0 => by simp
  | a :: l, n + 1 => by
    rw [show (n + 1) * 3 = n * 3 + 1 + 1 + 1 by omega]
    simp [tk_flat l n]
theorem L_bl {t : Test} (h : Tv t) (hσ : σ ≠ []) : ∀ (m i : Nat), i + m = t.st.length →
    WL T [1, 13, 14] false f_trial_Blame_l10 [(1, .cref t.enc), (13, .int .i64 t.st.length), (14, .int .i64 i)] σ
      (fun x e σ' => σ' = σ ∧ match blF t m i with
        | some k => x = .ret ∧ get e 2 = .int .i64 k ∧ get e 3 = .int .i64 0
        | none => x = .exit 0)
  | 0, i, hi => by
    refine WL_step e_trial_Blame_l10 ?_
    have h1 : ¬ i < t.st.length := by omega
    simp [-List.length_flatMap, -List.map_take, e_trial_Blame_r0, e_trial_Blame_r1, e_trial_Blame_r2, e_trial_Blame_r3, e_trial_Blame_r4, e_trial_Blame_r5, e_trial_Blame_r6, e_trial_Blame_r7, e_trial_Blame_r8, e_trial_Blame_r9, e_trial_Blame_r11, h1, blF]
  | m + 1, i, hi => by
    refine WL_step e_trial_Blame_l10 ?_
    have hn := h.n
    have h1 : i < t.st.length := by omega
    have h4 := wnext h1 (by omega)
    have hN := fun σ (hσ : σ ≠ []) => @C_none σ (tk t (i + 1)) (tk_tv h (i + 1)) hσ
    have e1 : (tk t (i + 1)).st.length = i + 1 := by simp [tk]; omega
    have e2 : (tk t (i + 1)).st.flatMap Step.enc = (t.st.flatMap Step.enc).take ((i + 1) * 3) := tk_flat _ _
    rw [e1, e2] at hN
    simp only [show (tk t (i + 1)).a = t.a from rfl, show (tk t (i + 1)).b = t.b from rfl, show (tk t (i + 1)).c = t.c from rfl] at hN
    have h5 : (i : Int) + 1 ≤ t.st.length := by omega
    have h6 : (0 : Int) ≤ (i : Int) + 1 := by omega
    have ih := L_bl h hσ m (i + 1) (by omega)
    have hr : blF t (m + 1) i = if (sets (tk t (i + 1))).isEmpty = true then some i else blF t m (i + 1) := rfl
    rw [hr]
    generalize blF t m (i + 1) = B at *
    cases hs : (sets (tk t (i + 1))).isEmpty
    · rw [hs] at hN
      rw [if_neg (by simp)]
      simp [-List.length_flatMap, -List.map_take, e_trial_Blame_r0, e_trial_Blame_r1, e_trial_Blame_r2, e_trial_Blame_r3, e_trial_Blame_r4, e_trial_Blame_r5, e_trial_Blame_r6, e_trial_Blame_r7, e_trial_Blame_r8, e_trial_Blame_r9, e_trial_Blame_r11, h1, h4, h5, h6, hN, hσ]
      exact WL.to ih (by simp) rfl fun x e σ' hh => hh
    · rw [hs] at hN
      rw [if_pos rfl]
      simp [-List.length_flatMap, -List.map_take, e_trial_Blame_r0, e_trial_Blame_r1, e_trial_Blame_r2, e_trial_Blame_r3, e_trial_Blame_r4, e_trial_Blame_r5, e_trial_Blame_r6, e_trial_Blame_r7, e_trial_Blame_r8, e_trial_Blame_r9, e_trial_Blame_r11, h1, h4, h5, h6, hN, hσ]

def blameD (t : Test) : D := if fault t = 0 then (match bl t with | some k => .tup [.int .i64 k, .int .i64 0] | none => .tup [.int .i64 0, .int .i64 7]) else .tup [.int .i64 0, .int .i64 (fault t)]
theorem C_blame {t : Test} (hl : t.st.length ≤ 100000) : lim T (.call false i_trial_Blame [.agg [.int .i64 t.a.lo, .int .i64 t.a.hi, .int .i64 t.b.lo, .int .i64 t.b.hi, .int .i64 t.c.lo, .int .i64 t.c.hi, .lst t.st.length (t.st.flatMap Step.enc)]] σ) = some (.val (blameD t) σ) := by
  refine call_of T_trial_Blame e_trial_Blame rfl ?_
  have hf := fun σ => @C_check σ t hl
  by_cases h0 : fault t = 0
  rotate_left
  · simp [-List.length_flatMap, -List.map_take, e_trial_Blame_r0, e_trial_Blame_r1, e_trial_Blame_r2, e_trial_Blame_r3, e_trial_Blame_r4, e_trial_Blame_r5, e_trial_Blame_r6, e_trial_Blame_r7, e_trial_Blame_r8, e_trial_Blame_r9, e_trial_Blame_r11, hf, h0, blameD]
  have h := fault_tv h0
  simp [-List.length_flatMap, -List.map_take, e_trial_Blame_r0, e_trial_Blame_r1, e_trial_Blame_r2, e_trial_Blame_r3, e_trial_Blame_r4, e_trial_Blame_r5, e_trial_Blame_r6, e_trial_Blame_r7, e_trial_Blame_r8, e_trial_Blame_r9, e_trial_Blame_r11, hf, h0]
  refine WL.to (L_bl (σ := [] :: σ) h (by simp) t.st.length 0 (by omega)) (by simp) rfl ?_
  rintro x e σ' ⟨rfl, hh⟩
  have e0 : blF t t.st.length 0 = bl t := rfl
  rw [e0] at hh
  cases hb : bl t with
  | none =>
    rw [hb] at hh
    obtain rfl := hh
    simp [-List.length_flatMap, -List.map_take, e_trial_Blame_r0, e_trial_Blame_r1, e_trial_Blame_r2, e_trial_Blame_r3, e_trial_Blame_r4, e_trial_Blame_r5, e_trial_Blame_r6, e_trial_Blame_r7, e_trial_Blame_r8, e_trial_Blame_r9, e_trial_Blame_r11, blameD, h0, hb]
  | some k =>
    rw [hb] at hh
    obtain ⟨rfl, g2, g3⟩ := hh
    simp [-List.length_flatMap, -List.map_take, e_trial_Blame_r0, e_trial_Blame_r1, e_trial_Blame_r2, e_trial_Blame_r3, e_trial_Blame_r4, e_trial_Blame_r5, e_trial_Blame_r6, e_trial_Blame_r7, e_trial_Blame_r8, e_trial_Blame_r9, e_trial_Blame_r11, g2, g3, blameD, h0, hb]
theorem L_Bl {t : Test} (h : Tv t) : ∀ (m i : Nat), i + m = t.st.length →
    WL T [1, 3] false f_ref04_Blame_l7 [(1, .cref t.enc), (3, .int .i64 (i + 1))] σ
      (fun x e σ' => σ' = σ ∧ match blF t m i with
        | some k => x = .ret ∧ get e 2 = .int .i64 k
        | none => x = .exit 0)
  | 0, i, hi => by
    refine WL_step e_ref04_Blame_l7 ?_
    have h1 : ¬ ((i : Int) + 1 ≤ t.st.length) := by omega
    simp [-List.length_flatMap, -List.map_take, e_ref04_Blame_r0, e_ref04_Blame_r1, e_ref04_Blame_r2, e_ref04_Blame_r3, e_ref04_Blame_r4, e_ref04_Blame_r5, e_ref04_Blame_r6, e_ref04_Blame_r8, h1, blF]
  | m + 1, i, hi => by
    refine WL_step e_ref04_Blame_l7 ?_
    have hn := h.n
    have h1 : ((i : Int) + 1 ≤ t.st.length) := by omega
    have hN := fun σ => @C_Curves σ (tk t (i + 1)) (tk_tv h (i + 1))
    simp only [CurvesD] at hN
    have e1 : (tk t (i + 1)).st.length = i + 1 := by simp [tk]; omega
    have e2 : (tk t (i + 1)).st.flatMap Step.enc = (t.st.flatMap Step.enc).take ((i + 1) * 3) := tk_flat _ _
    rw [e1, e2] at hN
    simp only [show (tk t (i + 1)).a = t.a from rfl, show (tk t (i + 1)).b = t.b from rfl, show (tk t (i + 1)).c = t.c from rfl] at hN
    have h6 : (0 : Int) ≤ (i : Int) + 1 := by omega
    have w1 := w64 (n := (i : Int) + 1 + 1) (by omega)
    have w2 := w64 (n := (i : Int)) (by omega)
    have e3 : ((i : Int) + 1).toNat = i + 1 := by omega
    have ih := L_Bl h m (i + 1) (by omega)
    rw [show ((i + 1 : Nat) : Int) + 1 = (i : Int) + 1 + 1 by omega] at ih
    have hr : blF t (m + 1) i = if (sets (tk t (i + 1))).isEmpty = true then some i else blF t m (i + 1) := rfl
    rw [hr]
    generalize blF t m (i + 1) = B at *
    have hz := many_zero (tk_tv h (i + 1))
    cases hs : (sets (tk t (i + 1))).isEmpty
    · have hz' : manyOf (sets (tk t (i + 1))) ≠ 0 := fun hh => by rw [hz.1 hh] at hs; cases hs
      rw [if_neg (by simp)]
      simp [-List.length_flatMap, -List.map_take, e_ref04_Blame_r0, e_ref04_Blame_r1, e_ref04_Blame_r2, e_ref04_Blame_r3, e_ref04_Blame_r4, e_ref04_Blame_r5, e_ref04_Blame_r6, e_ref04_Blame_r8, h1, h6, hN, hz', w1, e3]
      exact WL.to ih (by simp) rfl fun x e σ' hh => hh
    · have hz' : manyOf (sets (tk t (i + 1))) = 0 := hz.2 (by simpa using hs)
      rw [if_pos rfl]
      simp [-List.length_flatMap, -List.map_take, e_ref04_Blame_r0, e_ref04_Blame_r1, e_ref04_Blame_r2, e_ref04_Blame_r3, e_ref04_Blame_r4, e_ref04_Blame_r5, e_ref04_Blame_r6, e_ref04_Blame_r8, h1, h6, hN, hz', w2, e3]
theorem C_Blame {t : Test} (h : Tv t) : lim T (.call false i_ref04_Blame [.agg [.int .i64 t.a.lo, .int .i64 t.a.hi, .int .i64 t.b.lo, .int .i64 t.b.hi, .int .i64 t.c.lo, .int .i64 t.c.hi, .lst t.st.length (t.st.flatMap Step.enc)]] σ) = some (.val (.int .i64 (match bl t with | some k => (k : Int) | none => -1)) σ) := by
  refine call_of T_ref04_Blame e_ref04_Blame rfl ?_
  simp [-List.length_flatMap, -List.map_take, e_ref04_Blame_r0, e_ref04_Blame_r1, e_ref04_Blame_r2, e_ref04_Blame_r3, e_ref04_Blame_r4, e_ref04_Blame_r5, e_ref04_Blame_r6, e_ref04_Blame_r8]
  refine WL.to (L_Bl (σ := [] :: σ) h t.st.length 0 (by omega)) (by simp) rfl ?_
  rintro x e σ' ⟨rfl, hh⟩
  have e0 : blF t t.st.length 0 = bl t := rfl
  rw [e0] at hh
  cases hb : bl t with
  | none =>
    rw [hb] at hh
    obtain rfl := hh
    simp [-List.length_flatMap, -List.map_take, e_ref04_Blame_r0, e_ref04_Blame_r1, e_ref04_Blame_r2, e_ref04_Blame_r3, e_ref04_Blame_r4, e_ref04_Blame_r5, e_ref04_Blame_r6, e_ref04_Blame_r8]
  | some k =>
    rw [hb] at hh
    obtain ⟨rfl, g2⟩ := hh
    simp [g2]
theorem blF_none {t : Test} (hne : sets t ≠ []) : ∀ (m i : Nat), blF t m i = none
  | 0, i => rfl
  | m + 1, i => by
    have h1 : (sets (tk t (i + 1))).isEmpty = false := by
      cases h : sets (tk t (i + 1)) with
      | nil => exact absurd h (tk_sub hne)
      | cons x xs => rfl
    simp [blF, h1, blF_none hne m (i + 1)]
theorem blF_some {t : Test} (he : sets t = []) : ∀ (m i : Nat), i + m = t.st.length → 0 < m → ∃ k, blF t m i = some k ∧ k < t.st.length
  | 0, i, h, h0 => by omega
  | m + 1, i, h, h0 => by
    cases hs : (sets (tk t (i + 1))).isEmpty
    · by_cases hm : m = 0
      · have : i + 1 = t.st.length := by omega
        rw [this, tk_all, he] at hs
        cases hs
      · obtain ⟨k, hk, hl⟩ := blF_some he m (i + 1) (by omega) (by omega)
        exact ⟨k, by simp [blF, hs, hk], hl⟩
    · exact ⟨i, by simp [blF, hs], by omega⟩
theorem sets_box {t : Test} (h : Tv t) (h0 : t.st.length = 0) : sets t ≠ [] := by
  intro he
  have hb := h.b; have hc := h.c; have ha := h.a
  have hp : (t.b.lo, t.c.lo) ∈ pairs t := by
    simp only [pairs, List.mem_flatMap, List.mem_map]
    exact ⟨t.b.lo, mem_upto (by omega) hb.2.1, t.c.lo, mem_upto (by omega) hc.2.1, rfl⟩
  have hs : t.st = [] := List.eq_nil_of_length_eq_zero h0
  have := mem_sets hp (by simp [setOf, hs, ha.2.1])
  rw [he] at this
  simp at this
theorem bl_some {t : Test} (h : Tv t) (he : sets t = []) : ∃ k, bl t = some k ∧ k < t.st.length :=
  blF_some he t.st.length 0 (by omega) (by
    by_cases h0 : t.st.length = 0
    · exact absurd he (sets_box h h0)
    · omega)
end Go.Proofs.Ytcjjdaifpboaaaa
