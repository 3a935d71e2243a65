/-
  Programmes of layer 11: what is valid, needs, costs, ladders, the least of a year, of the program.
-/
import Derived.Test.YtcccafphhmcifaaGreatD2
import Derived.Test.YtcccafphhmcifaaGreatPlanSpec
set_option linter.unusedVariables false
set_option linter.unusedSimpArgs false
namespace Go.Proofs.YtcccafphhmcifaaGreat
open Go Go.Abs Go.Lease
variable {σ : Stack}

theorem yr_at {l : List Yr} {i : Nat} {y : Yr} (hx : l[i]? = some y) : ((l.flatMap Yr.enc).drop (i * 2)).take 2 = [.int .i64 y.need, .int .i64 y.price] := by
  have := flat_at (f := Yr.enc) (w := 2) (fun _ => rfl) hx
  simpa using this
theorem rn_at {l : List Rn} {i : Nat} {r : Rn} (hx : l[i]? = some r) : ((l.flatMap Rn.enc).drop (i * 2)).take 2 = [.int .i64 r.u, .int .i64 r.c] := by
  have := flat_at (f := Rn.enc) (w := 2) (fun _ => rfl) hx
  simpa using this
@[simp] theorem cyr {l : List Yr} : D.cleanL (l.flatMap Yr.enc) = true := k_clean (fun x => by simp) _
@[simp] theorem crn {l : List Rn} : D.cleanL (l.flatMap Rn.enc) = true := k_clean (fun x => by simp) _
def eltYr : Elt Yr := eltAgg 2 Yr.enc fun _ => rfl
def eltRn : Elt Rn := eltAgg 2 Rn.enc fun _ => rfl
theorem C_pv1 {y : Yr} : lim T (.call false i_lease_Programme_valid_1 [.agg [.int .i64 y.need, .int .i64 y.price]] σ) = some (.val (.bool (yrOk y)) σ) := by
  refine call_of T_lease_Programme_valid_1 e_lease_Programme_valid_1 rfl ?_
  cases h1 : inn y.need 0 30000000
  · simp [-List.length_flatMap, -List.map_take, e_lease_Programme_valid_1_r0, e_lease_Programme_valid_1_r1, D_within, h1, yrOk]
  · simp [-List.length_flatMap, -List.map_take, e_lease_Programme_valid_1_r0, e_lease_Programme_valid_1_r1, D_within, h1, yrOk]
theorem C_pvalid {p : Pg} (hl : p.l.length ≤ 1000000) : lim T (.call false i_lease_Programme_valid [.agg [.int .i64 p.start, .int .i64 p.gain, .int .i64 p.keep, .int .i64 p.most, .lst p.l.length (p.l.flatMap Yr.enc)]] σ) = some (.val (.bool (pgOk p)) σ) := by
  refine call_of T_lease_Programme_valid e_lease_Programme_valid rfl ?_
  have hA := fun σ => all_of (σ := σ) eltYr T_lease_all_lease_Year T_lease_all_lease_Year_1 T_slices_ContainsFunc_lease_Year T_slices_IndexFunc_lease_Year (l := p.l) (p := yrOk) (fv := .fn i_lease_Programme_valid_1 [] []) (by omega) (.fn fun y _ σ => C_pv1) rfl
  have hE : eltYr.enc = Yr.enc := rfl
  rw [hE] at hA
  cases h1 : inn p.start 0 1000000
  · simp [-List.length_flatMap, -List.map_take, e_lease_Programme_valid_r0, e_lease_Programme_valid_r1, D_within, h1, pgOk]
  cases h2 : inn p.gain 1 1000000
  · simp [-List.length_flatMap, -List.map_take, e_lease_Programme_valid_r0, e_lease_Programme_valid_r1, D_within, h1, h2, pgOk]
  cases h3 : inn p.keep 0 1000
  · simp [-List.length_flatMap, -List.map_take, e_lease_Programme_valid_r0, e_lease_Programme_valid_r1, D_within, h1, h2, h3, pgOk]
  cases h4 : inn p.most 0 3
  · simp [-List.length_flatMap, -List.map_take, e_lease_Programme_valid_r0, e_lease_Programme_valid_r1, D_within, h1, h2, h3, h4, pgOk]
  cases h5 : inn p.l.length 1 8
  · simp [-List.length_flatMap, -List.map_take, e_lease_Programme_valid_r0, e_lease_Programme_valid_r1, D_within, h1, h2, h3, h4, h5, pgOk]
  simp [-List.length_flatMap, -List.map_take, e_lease_Programme_valid_r0, e_lease_Programme_valid_r1, D_within, h1, h2, h3, h4, h5, hA, pgOk]

/-! ### Needs, costs, the next year -/

theorem gain_bd {p : Pg} (hp : pgOk p = true) {k : Int} (hk : 0 ≤ k ∧ k ≤ 3) : 0 ≤ k * p.gain ∧ k * p.gain ≤ 3000000 := by
  have hp1 := pgOk_iff.1 hp
  exact price_bd hk ⟨by omega, by omega⟩
theorem C_meets {p : Pg} (hp : pgOk p = true) {i : Nat} {y : Yr} (hy : p.l[i]? = some y) {c k : Int} (hc : 0 ≤ c ∧ c ≤ 1000000000) (hk : 0 ≤ k ∧ k ≤ 3) :
    lim T (.call false i_lease_Programme_meets [.agg [.int .i64 p.start, .int .i64 p.gain, .int .i64 p.keep, .int .i64 p.most, .lst p.l.length (p.l.flatMap Yr.enc)], .int .i64 i, .int .i64 c, .int .i64 k] σ) = some (.val (.bool (decide (y.need ≤ c + k * p.gain))) σ) := by
  refine call_of T_lease_Programme_meets e_lease_Programme_meets rfl ?_
  have hg := gain_bd hp hk
  have hi := (List.getElem?_eq_some_iff.1 hy).1
  have a1 := yr_at hy
  have w1 := w64 (n := k * p.gain) (by omega)
  have w2 := w64 (n := c + k * p.gain) (by omega)
  simp [-List.length_flatMap, -List.map_take, e_lease_Programme_meets_r0, e_lease_Programme_meets_r1, hi, a1, w1, w2]
theorem C_cost {y : Yr} (hy : yrOk y = true) {k : Int} (hk : 0 ≤ k ∧ k ≤ 3) : lim T (.call false i_lease_Year_cost [.agg [.int .i64 y.need, .int .i64 y.price], .int .i64 k] σ) = some (.val (.int .i64 (k * y.price)) σ) := by
  refine call_of T_lease_Year_cost e_lease_Year_cost rfl ?_
  have hb := price_bd hk (yrOk_iff.1 hy).2
  have w1 := w64 (n := k * y.price) (by omega)
  simp [-List.length_flatMap, -List.map_take, e_lease_Year_cost_r0, e_lease_Year_cost_r1, w1]
theorem C_after {p : Pg} (hp : pgOk p = true) {c k : Int} (hc : 0 ≤ c ∧ c ≤ 1000000000) (hk : 0 ≤ k ∧ k ≤ 3) : lim T (.call false i_lease_Programme_after [.agg [.int .i64 p.start, .int .i64 p.gain, .int .i64 p.keep, .int .i64 p.most, .lst p.l.length (p.l.flatMap Yr.enc)], .int .i64 c, .int .i64 k] σ) = some (.val (.int .i64 (aft p c k)) σ) := by
  refine call_of T_lease_Programme_after e_lease_Programme_after rfl ?_
  have hp1 := pgOk_iff.1 hp
  have hg := gain_bd hp hk
  have m0 : 0 ≤ (c + k * p.gain) * p.keep := Int.mul_nonneg (by omega) hp1.2.2.1.1
  have m1 : (c + k * p.gain) * p.keep ≤ 1003000000 * 1000 := Int.le_trans (Int.mul_le_mul_of_nonneg_right (by omega) hp1.2.2.1.1) (Int.mul_le_mul_of_nonneg_left hp1.2.2.1.2 (by decide))
  have w1 := w64 (n := k * p.gain) (by omega)
  have w2 := w64 (n := c + k * p.gain) (by omega)
  have w3 := w64 (n := (c + k * p.gain) * p.keep) (by omega)
  have w4 : ((c + k * p.gain) * p.keep).tdiv 1000 = aft p c k := Int.tdiv_eq_ediv_of_nonneg m0
  have w5 := w64 (n := aft p c k) (by unfold aft; omega)
  simp [-List.length_flatMap, -List.map_take, e_lease_Programme_after_r0, e_lease_Programme_after_r1, w1, w2, w3, w4, w5]

/-! ### Ladders -/

theorem C_at1 {r : Rn} {c : Int} (hr : 0 ≤ r.u ∧ r.u ≤ held) (hc : 0 ≤ c ∧ c ≤ held) : lim T (.call false i_lease_ladder_at_1 [.agg [.int .i64 r.u, .int .i64 r.c], .int .i64 c] σ) = some (.val (.int .i64 (r.u - c)) σ) := by
  refine call_of T_lease_ladder_at_1 e_lease_ladder_at_1 rfl ?_
  simp only [held] at hr hc
  have w1 := w64 (n := r.u - c) (by omega)
  simp [-List.length_flatMap, -List.map_take, e_lease_ladder_at_1_r0, e_lease_ladder_at_1_r1, w1]
theorem right_mem {l : List Rn} (h : rightL l = true) : ∀ r ∈ l, (0 ≤ r.u ∧ r.u ≤ held) ∧ (0 ≤ r.c ∧ r.c ≤ never) := by
  have h1 := rightL_iff.1 h
  have hne : l ≠ [] := by rintro rfl; simp at h1
  intro r hr
  refine ⟨?_, h1.1 r hr⟩
  have e1 : l.getLast? = some (l.getLastD ⟨-1, 0⟩) := by rw [List.getLastD_eq_getLast?, List.getLast?_eq_some_getLast hne]; rfl
  have h2 := steps_last h1.2.1 e1 r hr
  have key : ∀ {l : List Rn}, steps l = true → ∀ r ∈ l, (l.headD ⟨-1, 0⟩).u ≤ r.u := by
    intro l
    induction l with
    | nil => intro _ r hr; simp at hr
    | cons a l ih =>
      intro hs r hr
      rcases List.mem_cons.1 hr with rfl | hr
      · exact Int.le_refl _
      · cases l with
        | nil => simp at hr
        | cons b l =>
          simp only [steps, Bool.and_eq_true, decide_eq_true_eq] at hs
          have := ih hs.2.2 r hr
          simp only [List.headD_cons] at this ⊢
          omega
  have h3 := key h1.2.1 r hr
  omega
theorem steps_lt : ∀ {l : List Rn} {i j : Nat} {a b : Rn}, steps l = true → l[i]? = some a → l[j]? = some b → i < j → a.u < b.u
  | [], i, j, a, b, _, h, _, _ => by simp at h
  | x :: l, i, j, a, b, hs, ha, hb, hij => by
    obtain ⟨j, rfl⟩ : ∃ k, j = k + 1 := ⟨j - 1, by omega⟩
    simp only [List.getElem?_cons_succ] at hb
    cases l with
    | nil => simp at hb
    | cons y l =>
      simp only [steps, Bool.and_eq_true, decide_eq_true_eq] at hs
      cases i with
      | zero =>
        simp at ha; subst ha
        cases j with
        | zero => simp at hb; subst hb; exact hs.1
        | succ j =>
          have := steps_lt (i := 0) (a := y) hs.2.2 (by simp) hb (by omega)
          omega
      | succ i => exact steps_lt hs.2.2 (by simpa using ha) hb (by omega)
/-- The rung that is found is that of the capacity. -/
theorem costI_at : ∀ {l : List Rn} {c : Int} {i : Nat} {r : Rn}, l[i]? = some r → c ≤ r.u → (∀ j x, j < i → l[j]? = some x → x.u < c) → costI l c = r.c
  | [], c, i, r, h, _, _ => by simp at h
  | [a], c, i, r, h, hc, hl => by
    cases i with
    | zero => simp at h; subst h; rfl
    | succ i => simp at h
  | a :: b :: l, c, i, r, h, hc, hl => by
    cases i with
    | zero => simp at h; subst h; simp only [costI]; rw [if_pos hc]
    | succ i =>
      have h1 := hl 0 a (by omega) (by simp)
      simp only [costI]
      rw [if_neg (by omega)]
      exact costI_at (l := b :: l) (by simpa using h) hc fun j x hj hx => hl (j + 1) x (by omega) (by simpa using hx)
/-- Where a number is to be found. -/
structure Fnd (l : List Rn) (c : Int) (i : Nat) : Prop where
  le : i ≤ l.length
  lo : ∀ j x, j < i → l[j]? = some x → x.u < c
  hi : ∀ j x, i ≤ j → l[j]? = some x → c ≤ x.u
theorem mid_wrap {a b : Int} (h0 : 0 ≤ a) (h1 : 0 ≤ b) (h2 : a ≤ 100000000) (h3 : b ≤ 100000000) : IntKind.i64.wrap ((IntKind.u64.wrap (a + b)).fdiv (2 ^ (min 1 IntKind.u64.bits))) = (a + b) / 2 := by
  have e1 : IntKind.u64.wrap (a + b) = a + b := IntWalk.u64_in _ (by omega)
  have e2 : (2 : Int) ^ (min 1 IntKind.u64.bits) = 2 := by decide
  rw [e1, e2, Int.fdiv_eq_ediv_of_nonneg _ (by decide)]
  exact w64 (by omega)
theorem L_bin {l : List Rn} (hr : rightL l = true) {c : Int} (hc : 0 ≤ c ∧ c ≤ held) : ∀ (m lo hi : Nat), hi ≤ lo + m → lo ≤ hi → hi ≤ l.length → (∀ j x, j < lo → l[j]? = some x → x.u < c) → (∀ j x, hi ≤ j → l[j]? = some x → c ≤ x.u) →
    WL T [0, 1, 2, 8, 9, 10] false f_slices_BinarySearchFunc_lease_ladder_lease_Rung_int_l8 [(0, .lst l.length (l.flatMap Rn.enc)), (1, .int .i64 c), (2, .fn i_lease_ladder_at_1 [] []), (8, .int .i64 l.length), (9, .int .i64 lo), (10, .int .i64 hi)] σ
      (fun x e σ' => σ' = σ ∧ x = .exit 0 ∧ get e 0 = .lst l.length (l.flatMap Rn.enc) ∧ get e 1 = .int .i64 c ∧ get e 2 = .fn i_lease_ladder_at_1 [] [] ∧ get e 8 = .int .i64 l.length ∧ ∃ i : Nat, get e 9 = .int .i64 i ∧ Fnd l c i)
  | 0, lo, hi, hm, hlo, hhi, i0, i1 => by
    refine WL_step e_slices_BinarySearchFunc_lease_ladder_lease_Rung_int_l8 ?_
    have e1 : lo = hi := by omega
    subst e1
    simp [-List.length_flatMap, -List.map_take, e_slices_BinarySearchFunc_lease_ladder_lease_Rung_int_r0, e_slices_BinarySearchFunc_lease_ladder_lease_Rung_int_r1, e_slices_BinarySearchFunc_lease_ladder_lease_Rung_int_r2, e_slices_BinarySearchFunc_lease_ladder_lease_Rung_int_r3, e_slices_BinarySearchFunc_lease_ladder_lease_Rung_int_r4, e_slices_BinarySearchFunc_lease_ladder_lease_Rung_int_r5, e_slices_BinarySearchFunc_lease_ladder_lease_Rung_int_r6, e_slices_BinarySearchFunc_lease_ladder_lease_Rung_int_r7, e_slices_BinarySearchFunc_lease_ladder_lease_Rung_int_r9]
    exact ⟨lo, rfl, hhi, i0, i1⟩
  | m + 1, lo, hi, hm, hlo, hhi, i0, i1 => by
    refine WL_step e_slices_BinarySearchFunc_lease_ladder_lease_Rung_int_l8 ?_
    by_cases hlt : lo < hi
    rotate_left
    · have e1 : lo = hi := by omega
      subst e1
      simp [-List.length_flatMap, -List.map_take, e_slices_BinarySearchFunc_lease_ladder_lease_Rung_int_r0, e_slices_BinarySearchFunc_lease_ladder_lease_Rung_int_r1, e_slices_BinarySearchFunc_lease_ladder_lease_Rung_int_r2, e_slices_BinarySearchFunc_lease_ladder_lease_Rung_int_r3, e_slices_BinarySearchFunc_lease_ladder_lease_Rung_int_r4, e_slices_BinarySearchFunc_lease_ladder_lease_Rung_int_r5, e_slices_BinarySearchFunc_lease_ladder_lease_Rung_int_r6, e_slices_BinarySearchFunc_lease_ladder_lease_Rung_int_r7, e_slices_BinarySearchFunc_lease_ladder_lease_Rung_int_r9]
      exact ⟨lo, rfl, hhi, i0, i1⟩
    have hl := (rightL_iff.1 hr).2.2.1
    have hst := (rightL_iff.1 hr).2.1
    obtain ⟨h, hh⟩ : ∃ h : Nat, h = (lo + hi) / 2 := ⟨_, rfl⟩
    have w1 := mid_wrap (a := (lo : Int)) (b := (hi : Int)) (by omega) (by omega) (by omega) (by omega)
    have w1' : ((lo : Int) + hi) / 2 = (h : Int) := by omega
    rw [w1'] at w1
    have w0 := w64 (n := (lo : Int) + hi) (by omega)
    have h1 : h < l.length := by omega
    obtain ⟨x, hx⟩ : ∃ x, l[h]? = some x := ⟨_, List.getElem?_eq_getElem h1⟩
    have a1 := rn_at hx
    have hxm := right_mem hr x (List.mem_of_getElem? hx)
    have hA := fun σ => C_at1 (σ := σ) hxm.1 hc
    have w2 := wnext h1 (by omega)
    by_cases hux : x.u < c
    · have ih := L_bin hr hc m (h + 1) hi (by omega) (by omega) hhi (fun j y hj hy => by
        by_cases hjh : j = h
        · subst hjh; rw [hx] at hy; cases hy; exact hux
        · have := steps_lt hst hy hx (by omega); omega) i1
      have c1 : x.u - c < 0 := by omega
      simp [-List.length_flatMap, -List.map_take, e_slices_BinarySearchFunc_lease_ladder_lease_Rung_int_r0, e_slices_BinarySearchFunc_lease_ladder_lease_Rung_int_r1, e_slices_BinarySearchFunc_lease_ladder_lease_Rung_int_r2, e_slices_BinarySearchFunc_lease_ladder_lease_Rung_int_r3, e_slices_BinarySearchFunc_lease_ladder_lease_Rung_int_r4, e_slices_BinarySearchFunc_lease_ladder_lease_Rung_int_r5, e_slices_BinarySearchFunc_lease_ladder_lease_Rung_int_r6, e_slices_BinarySearchFunc_lease_ladder_lease_Rung_int_r7, e_slices_BinarySearchFunc_lease_ladder_lease_Rung_int_r9, hlt, w0, w1, h1, a1, hA, c1, w2]
      exact WL.to ih (by simp) rfl fun x e σ hh => hh
    · have ih := L_bin hr hc m lo h (by omega) (by omega) (by omega) i0 (fun j y hj hy => by
        by_cases hjh : j = h
        · subst hjh; rw [hx] at hy; cases hy; omega
        · have := steps_lt hst hx hy (by omega); omega)
      have c1 : ¬ x.u - c < 0 := by omega
      simp [-List.length_flatMap, -List.map_take, e_slices_BinarySearchFunc_lease_ladder_lease_Rung_int_r0, e_slices_BinarySearchFunc_lease_ladder_lease_Rung_int_r1, e_slices_BinarySearchFunc_lease_ladder_lease_Rung_int_r2, e_slices_BinarySearchFunc_lease_ladder_lease_Rung_int_r3, e_slices_BinarySearchFunc_lease_ladder_lease_Rung_int_r4, e_slices_BinarySearchFunc_lease_ladder_lease_Rung_int_r5, e_slices_BinarySearchFunc_lease_ladder_lease_Rung_int_r6, e_slices_BinarySearchFunc_lease_ladder_lease_Rung_int_r7, e_slices_BinarySearchFunc_lease_ladder_lease_Rung_int_r9, hlt, w0, w1, h1, a1, hA, c1]
      exact WL.to ih (by simp) rfl fun x e σ hh => hh
def fndI : List Rn → Int → Nat
  | [], _ => 0
  | r :: l, c => if r.u < c then fndI l c + 1 else 0
theorem fnd_eq : ∀ {l : List Rn} {c : Int} {i : Nat}, Fnd l c i → i = fndI l c
  | [], c, i, h => by have := h.le; simp at this; subst this; rfl
  | r :: l, c, i, h => by
    unfold fndI
    by_cases hr : r.u < c
    · rw [if_pos hr]
      cases i with
      | zero => have := h.hi 0 r (by omega) (by simp); omega
      | succ i =>
        rw [fnd_eq (l := l) (c := c) (i := i) ⟨by have := h.le; simpa using this, fun j x hj hx => h.lo (j + 1) x (by omega) (by simpa using hx), fun j x hj hx => h.hi (j + 1) x (by omega) (by simpa using hx)⟩]
    · rw [if_neg hr]
      cases i with
      | zero => rfl
      | succ i => exact absurd (h.lo 0 r (by omega) (by simp)) hr
def fndB (l : List Rn) (c : Int) : Bool := if fndI l c < l.length then decide ((l.getD (fndI l c) ⟨0, 0⟩).u - c = 0) else false
theorem C_bin {l : List Rn} (hr : rightL l = true) {c : Int} (hc : 0 ≤ c ∧ c ≤ held) : lim T (.call false i_slices_BinarySearchFunc_lease_ladder_lease_Rung_int [.lst l.length (l.flatMap Rn.enc), .int .i64 c, .fn i_lease_ladder_at_1 [] []] σ) = some (.val (.tup [.int .i64 (fndI l c), .bool (fndB l c)]) σ) := by
  refine call_of T_slices_BinarySearchFunc_lease_ladder_lease_Rung_int e_slices_BinarySearchFunc_lease_ladder_lease_Rung_int rfl ?_
  simp [-List.length_flatMap, -List.map_take, e_slices_BinarySearchFunc_lease_ladder_lease_Rung_int_r0, e_slices_BinarySearchFunc_lease_ladder_lease_Rung_int_r1, e_slices_BinarySearchFunc_lease_ladder_lease_Rung_int_r2, e_slices_BinarySearchFunc_lease_ladder_lease_Rung_int_r3, e_slices_BinarySearchFunc_lease_ladder_lease_Rung_int_r4, e_slices_BinarySearchFunc_lease_ladder_lease_Rung_int_r5, e_slices_BinarySearchFunc_lease_ladder_lease_Rung_int_r6, e_slices_BinarySearchFunc_lease_ladder_lease_Rung_int_r7, e_slices_BinarySearchFunc_lease_ladder_lease_Rung_int_r9]
  refine WL.to (L_bin (σ := [] :: σ) hr hc l.length 0 l.length (by omega) (by omega) (by omega) (fun j x hj => by omega) (fun j x hj hx => by have := (List.getElem?_eq_some_iff.1 hx).1; omega)) (by simp) rfl ?_
  rintro x e σ' ⟨rfl, rfl, g0, g1, g2, g8, i, g9, hf⟩
  have hi := fnd_eq hf
  subst hi
  by_cases hn : fndI l c < l.length
  · obtain ⟨x, hx⟩ : ∃ x, l[fndI l c]? = some x := ⟨_, List.getElem?_eq_getElem hn⟩
    have a1 := rn_at hx
    have hxm := right_mem hr x (List.mem_of_getElem? hx)
    have hA := fun σ => C_at1 (σ := σ) hxm.1 hc
    have hb : fndB l c = decide (x.u - c = 0) := by unfold fndB; rw [if_pos hn, List.getD_eq_getElem?_getD, hx]; rfl
    have hq : (x.u - c == 0) = fndB l c := by rw [hb]; by_cases h : x.u - c = 0 <;> simp [h]
    simp [-List.length_flatMap, -List.map_take, e_slices_BinarySearchFunc_lease_ladder_lease_Rung_int_r9, g0, g1, g2, g8, g9, hn, a1, hA, hq]
  · have hb : fndB l c = false := by unfold fndB; rw [if_neg hn]
    simp [-List.length_flatMap, -List.map_take, e_slices_BinarySearchFunc_lease_ladder_lease_Rung_int_r9, g0, g1, g2, g8, g9, hn, hb]
theorem right_last {l : List Rn} (h : rightL l = true) : ∃ k, l.getLast? = some ⟨held, k⟩ := by
  have h1 := rightL_iff.1 h
  have hne : l ≠ [] := by rintro rfl; simp at h1
  have e1 : l.getLast? = some (l.getLastD ⟨-1, 0⟩) := by rw [List.getLastD_eq_getLast?, List.getLast?_eq_some_getLast hne]; rfl
  refine ⟨(l.getLastD ⟨-1, 0⟩).c, ?_⟩
  rw [e1, ← h1.2.2.2.2]
theorem fnd_ok {l : List Rn} (hr : rightL l = true) {c : Int} (hc : c ≤ held) : ∃ x, l[fndI l c]? = some x ∧ costI l c = x.c := by
  obtain ⟨k, hk⟩ := right_last hr
  have key : ∀ {l : List Rn} {k : Int}, l.getLast? = some ⟨held, k⟩ → ∃ x, l[fndI l c]? = some x ∧ c ≤ x.u ∧ ∀ j y, j < fndI l c → l[j]? = some y → y.u < c := by
    intro l
    induction l with
    | nil => intro k h; simp at h
    | cons a l ih =>
      intro k h
      unfold fndI
      by_cases ha : a.u < c
      · rw [if_pos ha]
        cases l with
        | nil => simp at h; subst h; simp only at ha; omega
        | cons b l =>
          obtain ⟨x, h1, h2, h3⟩ := ih (k := k) (by simpa using h)
          refine ⟨x, by simpa using h1, h2, fun j y hj hy => ?_⟩
          cases j with
          | zero => simp at hy; subst hy; exact ha
          | succ j => exact h3 j y (by omega) (by simpa using hy)
      · rw [if_neg ha]
        exact ⟨a, by simp, by omega, fun j y hj => by omega⟩
  obtain ⟨x, h1, h2, h3⟩ := key hk
  exact ⟨x, h1, costI_at h1 h2 h3⟩
theorem costI_min {l : List Rn} (hr : rightL l = true) {c : Int} : costI l (min c held) = costI l c := by
  obtain ⟨k, hk⟩ := right_last hr
  by_cases h : c ≤ held
  · rw [Int.min_eq_left h]
  · rw [Int.min_eq_right (by omega), costI_top (rightL_iff.1 hr).2.1 hk (Int.le_refl _), costI_top (rightL_iff.1 hr).2.1 hk (by omega)]
theorem C_at {l : List Rn} (hr : rightL l = true) {c : Int} (hc : 0 ≤ c) : lim T (.call false i_lease_ladder_at [.lst l.length (l.flatMap Rn.enc), .int .i64 c] σ) = some (.val (.int .i64 (costI l c)) σ) := by
  refine call_of T_lease_ladder_at e_lease_ladder_at rfl ?_
  have h1 : 0 ≤ min c held ∧ min c held ≤ held := ⟨by simp only [held]; omega, Int.min_le_right ..⟩
  have hB := fun σ => C_bin (σ := σ) hr h1
  obtain ⟨x, hx, hxc⟩ := fnd_ok hr h1.2
  have hn := (List.getElem?_eq_some_iff.1 hx).1
  have a1 := rn_at hx
  rw [costI_min hr] at hxc
  simp only [held] at hB a1 hn
  simp [-List.length_flatMap, -List.map_take, e_lease_ladder_at_r0, e_lease_ladder_at_r1, e_lease_ladder_at_r2, e_lease_ladder_at_r3, hB, hn, a1, hxc]
theorem costI_bd {l : List Rn} (hr : rightL l = true) {c : Int} : 0 ≤ costI l c ∧ costI l c ≤ never := by
  have h1 : min c held ≤ held := Int.min_le_right ..
  obtain ⟨x, hx, hxc⟩ := fnd_ok hr h1
  rw [costI_min hr] at hxc
  rw [hxc]
  exact (right_mem hr x (List.mem_of_getElem? hx)).2

/-! ### The least of a year -/

theorem tryK_bd {p : Pg} {y : Yr} {g : Int → Int} {c best k : Int} (h0 : 0 ≤ best ∧ best ≤ never) (hk : 0 ≤ k) (hy : 0 ≤ y.price) (hg : 0 ≤ g (aft p c k)) : 0 ≤ tryK p y g c best k ∧ tryK p y g c best k ≤ never := by
  have := Int.mul_nonneg hk hy
  unfold tryK
  split <;> omega
theorem L_least {p : Pg} (hp : pgOk p = true) {i : Nat} {y : Yr} (hy : p.l[i]? = some y) {next : List Rn} (hr : rightL next = true) {c : Int} (hc : 0 ≤ c ∧ c ≤ held) : ∀ (m k : Nat) (best : Int), (k : Int) + m = p.most + 1 → 0 ≤ best → best ≤ never →
    WL T [1, 2, 3, 4, 9, 14, 15] false f_lease_work_least_l8 [(1, .int .i64 i), (2, .int .i64 c), (3, .lst next.length (next.flatMap Rn.enc)), (4, .cref p.enc), (9, .int .i64 best), (14, .int .i64 (p.most + 1)), (15, .int .i64 k)] σ
      (fun x e σ' => σ' = σ ∧ x = .exit 0 ∧ get e 9 = .int .i64 (leastK p y (costI next) c m k best))
  | 0, k, best, hk, b0, b1 => by
    refine WL_step e_lease_work_least_l8 ?_
    have h1 : ¬ (k : Int) < p.most + 1 := by omega
    simp [-List.length_flatMap, -List.map_take, e_lease_work_least_r0, e_lease_work_least_r1, e_lease_work_least_r2, e_lease_work_least_r3, e_lease_work_least_r4, e_lease_work_least_r5, e_lease_work_least_r6, e_lease_work_least_r7, e_lease_work_least_r9, h1, leastK]
  | m + 1, k, best, hk, b0, b1 => by
    refine WL_step e_lease_work_least_l8 ?_
    have hp1 := pgOk_iff.1 hp
    have h1 : (k : Int) < p.most + 1 := by omega
    have hi := (List.getElem?_eq_some_iff.1 hy).1
    have hyk := hp1.2.2.2.2.2 y (List.mem_of_getElem? hy)
    have hk3 : 0 ≤ (k : Int) ∧ (k : Int) ≤ 3 := by omega
    simp only [held] at hc
    have hM := fun σ => C_meets (σ := σ) hp hy (c := c) (k := k) (by omega) hk3
    have hC := fun σ => C_cost (σ := σ) hyk hk3
    have hA := fun σ => C_after (σ := σ) hp (c := c) (k := k) (by omega) hk3
    have ha := aft_le hp (c := c) (j := k) hc.1 hk3.1 (by omega)
    have hL := fun σ => C_at (σ := σ) hr ha.1
    have hb := costI_bd hr (c := aft p c k)
    have hpr := price_bd hk3 (yrOk_iff.1 hyk).2
    have a1 := yr_at hy
    have w1 := w64 (n := (k : Int) + 1) (by omega)
    simp only [never] at hb
    have w2 := w64 (n := (k : Int) * y.price + costI next (aft p c k)) (by omega)
    have ht := tryK_bd (p := p) (y := y) (g := costI next) (c := c) (k := k) ⟨b0, b1⟩ hk3.1 (yrOk_iff.1 hyk).2.1 hb.1
    have ih := L_least hp hy hr (c := c) (by simp only [held]; exact hc) m (k + 1) (tryK p y (costI next) c best k) (by omega) ht.1 ht.2
    rw [leastK]
    by_cases hn : y.need ≤ c + k * p.gain
    · have hT : tryK p y (costI next) c best k = min best (k * y.price + costI next (aft p c k)) := by unfold tryK; rw [if_pos hn]
      rw [hT] at ih ⊢
      simp [-List.length_flatMap, -List.map_take, e_lease_work_least_r0, e_lease_work_least_r1, e_lease_work_least_r2, e_lease_work_least_r3, e_lease_work_least_r4, e_lease_work_least_r5, e_lease_work_least_r6, e_lease_work_least_r7, e_lease_work_least_r9, h1, hM, hn, a1, hi, hC, hA, hL, w1, w2]
      exact WL.to ih (by simp) rfl fun x e σ hh => by simpa using hh
    · have hT : tryK p y (costI next) c best k = best := by unfold tryK; rw [if_neg hn]
      rw [hT] at ih ⊢
      simp [-List.length_flatMap, -List.map_take, e_lease_work_least_r0, e_lease_work_least_r1, e_lease_work_least_r2, e_lease_work_least_r3, e_lease_work_least_r4, e_lease_work_least_r5, e_lease_work_least_r6, e_lease_work_least_r7, e_lease_work_least_r9, h1, hM, hn, w1]
      exact WL.to ih (by simp) rfl fun x e σ hh => by simpa using hh
theorem C_least {p : Pg} (hp : pgOk p = true) {i : Nat} {y : Yr} (hy : p.l[i]? = some y) {next : List Rn} (hr : rightL next = true) {c : Int} (hc : 0 ≤ c ∧ c ≤ held) :
    lim T (.call false i_lease_work_least [.agg [.int .i64 p.start, .int .i64 p.gain, .int .i64 p.keep, .int .i64 p.most, .lst p.l.length (p.l.flatMap Yr.enc)], .int .i64 i, .int .i64 c, .lst next.length (next.flatMap Rn.enc)] σ) = some (.val (.int .i64 (leastW p y (costI next) c)) σ) := by
  refine call_of T_lease_work_least e_lease_work_least rfl ?_
  have hp1 := pgOk_iff.1 hp
  have w1 := w64 (n := p.most + 1) (by omega)
  simp [-List.length_flatMap, -List.map_take, e_lease_work_least_r0, e_lease_work_least_r1, e_lease_work_least_r2, e_lease_work_least_r3, e_lease_work_least_r4, e_lease_work_least_r5, e_lease_work_least_r6, e_lease_work_least_r7, e_lease_work_least_r9, w1]
  refine WL.to (L_least (σ := [] :: σ) hp hy hr hc (p.most.toNat + 1) 0 never (by omega) (by decide) (by decide)) (by simp) rfl ?_
  rintro x e σ' ⟨rfl, rfl, g9⟩
  simp [-List.length_flatMap, -List.map_take, e_lease_work_least_r9, g9, leastW]
end Go.Proofs.YtcccafphhmcifaaGreat
