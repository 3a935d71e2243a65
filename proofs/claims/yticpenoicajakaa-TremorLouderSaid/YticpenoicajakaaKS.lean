/-
  Magnitudes: of the reference; the law's conversions of scales and readings.
-/
import Derived.Test.YticpenoicajakaaK12
set_option linter.unusedVariables false
set_option linter.unusedSimpArgs false
namespace Go.Trem
open Go Go.Abs

def lvAt (l : List Int) (j : Nat) : Bool := inn (l.getD j 0) 1 1000000000 && risAt l j
def rwAt (rows : List FarRow) (j : Nat) : Bool := FarRow.ok (rows.getD j ⟨0, 0⟩) && (risAt (rows.map (·.far)) j && (decide (j ≠ 0) || decide ((rows.getD 0 ⟨0, 0⟩).far = 0)))

theorem allB_get {α : Type} {p : α → Bool} {l : List α} {d : α} : allB l p = true ↔ ∀ j, j < l.length → p (l.getD j d) = true := by
  rw [allB_iff]
  constructor
  · intro h j hj
    have : l[j]? = some l[j] := List.getElem?_eq_getElem hj
    rw [getD_of' this]
    exact h _ (List.getElem_mem hj)
  · intro h x hx
    obtain ⟨j, hj, rfl⟩ := List.getElem_of_mem hx
    have := h j hj
    rwa [getD_of' (List.getElem?_eq_getElem hj)] at this
where
  getD_of' {α : Type} {l : List α} {i : Nat} {x d : α} (h : l[i]? = some x) : l.getD i d = x := by simp [List.getD, h]

theorem allB_range {p : Nat → Bool} {n : Nat} : allB (List.range' 0 n) p = true ↔ ∀ j, j < n → p j = true := by
  rw [allB_iff]
  simp [List.mem_range']

theorem lv_ok {l : List Int} : allB (List.range' 0 l.length) (lvAt l) = (allB l (fun n => inn n 1 1000000000) && risB l) := by
  rw [Bool.eq_iff_iff, Bool.and_eq_true, allB_range, allB_get (d := 0), risB, allB_range]
  simp only [lvAt, Bool.and_eq_true]
  exact ⟨fun h => ⟨fun j hj => (h j hj).1, fun j hj => (h j hj).2⟩, fun h j hj => ⟨h.1 j hj, h.2 j hj⟩⟩

theorem rw_ok {rows : List FarRow} (h0 : 0 < rows.length) : allB (List.range' 0 rows.length) (rwAt rows) = (decide ((rows.getD 0 ⟨0, 0⟩).far = 0) && (allB rows FarRow.ok && risB (rows.map (·.far)))) := by
  rw [Bool.eq_iff_iff, Bool.and_eq_true, Bool.and_eq_true, allB_range, allB_get (d := ⟨0, 0⟩), risB, List.length_map, allB_range]
  simp only [rwAt, Bool.and_eq_true, Bool.or_eq_true, decide_eq_true_eq]
  exact ⟨fun h => ⟨((h 0 h0).2.2).resolve_left (by omega), fun j hj => (h j hj).1, fun j hj => (h j hj).2.1⟩, fun h j hj => ⟨h.2.1 j hj, h.2.2 j hj, .inr h.1⟩⟩

theorem ris_lt {l : List Int} (h : risB l = true) : l.Pairwise (· < ·) := by
  rw [risB, allB_range] at h
  have step : ∀ (j i : Nat), i < j → j < l.length → l.getD i 0 < l.getD j 0 := by
    intro j
    induction j with
    | zero => intro i h; omega
    | succ j ih =>
      intro i hi hj
      have h1 := h (j + 1) hj
      simp only [risAt, Nat.add_sub_cancel, Bool.or_eq_true, decide_eq_true_eq] at h1
      have h2 : l.getD j 0 < l.getD (j + 1) 0 := h1.resolve_left (by omega)
      by_cases hij : i = j
      · subst hij; exact h2
      · have := ih i (by omega) (by omega)
        omega
  rw [List.pairwise_iff_getElem]
  intro i j hi hj hij
  have := step j i hij hj
  simpa [List.getD, List.getElem?_eq_getElem hi, List.getElem?_eq_getElem hj] using this

theorem count_lvl {l : List Int} (h : l.Pairwise (· < ·)) (a : Int) : (l.filter fun x => decide (x ≤ a)).length = lvl l a := by
  induction l with
  | nil => rfl
  | cons x l ih =>
    rw [List.pairwise_cons] at h
    by_cases hx : x ≤ a
    · simp only [List.filter_cons, hx, decide_true, if_true, lvl, List.takeWhile, List.length_cons, Nat.add_right_cancel_iff]
      exact ih h.2
    · have : l.filter (fun x => decide (x ≤ a)) = [] := by
        rw [List.filter_eq_nil_iff]
        intro y hy
        have := h.1 y hy
        simp; omega
      simp [lvl, List.takeWhile, hx, this]
end Go.Trem
namespace Go.Proofs.Yticpenoicajakaa
open Go Go.Abs Go.Trem
variable {σ : Stack}

theorem range'_cons {i m : Nat} {p : Nat → Bool} : allB (List.range' i (m + 1)) p = (p i && allB (List.range' (i + 1) m) p) := rfl

theorem L_RS1 {s : Scale} (hl : s.levels.length ≤ 9223372036854775807) : ∀ (m i : Nat), i + m = s.levels.length →
    WL T [1, 3] false f_ref09_RightScale_l6 [(1, .cref s.enc), (3, .int .i64 i)] σ
      (fun x e σ' => σ' = σ ∧ if allB (List.range' i m) (lvAt s.levels) then x = .exit 0 ∧ get e 1 = .cref s.enc else x = .ret ∧ get e 2 = .bool false)
  | 0, i, hi => by
    refine WL_step e_ref09_RightScale_l6 ?_
    have h1 : ¬ i < s.levels.length := by omega
    simp [-List.length_flatMap, -List.map_take, e_ref09_RightScale_r0, e_ref09_RightScale_r1, e_ref09_RightScale_r2, e_ref09_RightScale_r3, e_ref09_RightScale_r4, e_ref09_RightScale_r5, e_ref09_RightScale_r7, e_ref09_RightScale_r8, e_ref09_RightScale_r9, e_ref09_RightScale_r10, e_ref09_RightScale_r11, e_ref09_RightScale_r12, e_ref09_RightScale_r14, h1, allB]
  | m + 1, i, hi => by
    refine WL_step e_ref09_RightScale_l6 ?_
    have ih := L_RS1 hl m (i + 1) (by omega)
    have h1 : i < s.levels.length := by omega
    obtain ⟨x, hx⟩ : ∃ x, s.levels[i]? = some x := ⟨_, List.getElem?_eq_getElem h1⟩
    have h2 := flat_at (f := intE) (w := 1) (fun _ => rfl) hx
    simp only [Nat.mul_one] at h2
    have h4 := wnext h1 hl
    have gx : s.levels.getD i 0 = x := getD_of hx
    rw [range'_cons]
    cases c1 : inn x 1 1000000000
    · have hv : lvAt s.levels i = false := by unfold lvAt; rw [gx, c1]; rfl
      simp [-List.length_flatMap, -List.map_take, e_ref09_RightScale_r0, e_ref09_RightScale_r1, e_ref09_RightScale_r2, e_ref09_RightScale_r3, e_ref09_RightScale_r4, e_ref09_RightScale_r5, e_ref09_RightScale_r7, e_ref09_RightScale_r8, e_ref09_RightScale_r9, e_ref09_RightScale_r10, e_ref09_RightScale_r11, e_ref09_RightScale_r12, e_ref09_RightScale_r14, h1, h2, C_In, c1, hv]
    by_cases h0 : i = 0
    · have hv : lvAt s.levels i = true := by unfold lvAt; rw [gx, c1]; simp [risAt, h0]
      rw [hv]
      have h0' : ¬ 0 < i := by omega
      simp [-List.length_flatMap, -List.map_take, e_ref09_RightScale_r0, e_ref09_RightScale_r1, e_ref09_RightScale_r2, e_ref09_RightScale_r3, e_ref09_RightScale_r4, e_ref09_RightScale_r5, e_ref09_RightScale_r7, e_ref09_RightScale_r8, e_ref09_RightScale_r9, e_ref09_RightScale_r10, e_ref09_RightScale_r11, e_ref09_RightScale_r12, e_ref09_RightScale_r14, h1, h2, h4, C_In, c1, h0']
      exact WL.to ih (by simp) rfl fun x e σ' hh => by simpa using hh
    obtain ⟨y, hy⟩ : ∃ y, s.levels[i - 1]? = some y := ⟨_, List.getElem?_eq_getElem (by omega)⟩
    have h3 := flat_at (f := intE) (w := 1) (fun _ => rfl) hy
    simp only [Nat.mul_one] at h3
    have h5 : 0 < i := by omega
    have h6 := w64 (n := (i : Int) - 1) (by omega)
    have h7 : ((i : Int) - 1).toNat = i - 1 := by omega
    have h8 : (1 : Int) ≤ i := by omega
    have h9 : (i : Int) - 1 < s.levels.length := by omega
    have hv : lvAt s.levels i = decide (y < x) := by unfold lvAt risAt; rw [gx, c1, getD_of hy]; simp [h0]
    rw [hv]
    by_cases hc : x ≤ y
    · have hc' : ¬ y < x := by omega
      simp [-List.length_flatMap, -List.map_take, e_ref09_RightScale_r0, e_ref09_RightScale_r1, e_ref09_RightScale_r2, e_ref09_RightScale_r3, e_ref09_RightScale_r4, e_ref09_RightScale_r5, e_ref09_RightScale_r7, e_ref09_RightScale_r8, e_ref09_RightScale_r9, e_ref09_RightScale_r10, e_ref09_RightScale_r11, e_ref09_RightScale_r12, e_ref09_RightScale_r14, h1, h2, h3, h4, C_In, c1, h5, h6, h7, h8, h9, hc, hc']
    · have hc' : y < x := by omega
      simp [-List.length_flatMap, -List.map_take, e_ref09_RightScale_r0, e_ref09_RightScale_r1, e_ref09_RightScale_r2, e_ref09_RightScale_r3, e_ref09_RightScale_r4, e_ref09_RightScale_r5, e_ref09_RightScale_r7, e_ref09_RightScale_r8, e_ref09_RightScale_r9, e_ref09_RightScale_r10, e_ref09_RightScale_r11, e_ref09_RightScale_r12, e_ref09_RightScale_r14, h1, h2, h3, h4, C_In, c1, h5, h6, h7, h8, h9, hc]
      exact WL.to ih (by simp) rfl fun x' e σ' hh => by simpa [hc'] using hh

theorem L_RS2 {s : Scale} (hl : s.rows.length ≤ 9223372036854775807) : ∀ (m i : Nat), i + m = s.rows.length →
    WL T [1, 4] false f_ref09_RightScale_l13 [(1, .cref s.enc), (4, .int .i64 i)] σ
      (fun x e σ' => σ' = σ ∧ if allB (List.range' i m) (rwAt s.rows) then x = .exit 2 ∧ get e 1 = .cref s.enc else x = .ret ∧ get e 2 = .bool false)
  | 0, i, hi => by
    refine WL_step e_ref09_RightScale_l13 ?_
    have h1 : ¬ i < s.rows.length := by omega
    simp [-List.length_flatMap, -List.map_take, e_ref09_RightScale_r0, e_ref09_RightScale_r1, e_ref09_RightScale_r2, e_ref09_RightScale_r3, e_ref09_RightScale_r4, e_ref09_RightScale_r5, e_ref09_RightScale_r7, e_ref09_RightScale_r8, e_ref09_RightScale_r9, e_ref09_RightScale_r10, e_ref09_RightScale_r11, e_ref09_RightScale_r12, e_ref09_RightScale_r14, h1, allB]
  | m + 1, i, hi => by
    refine WL_step e_ref09_RightScale_l13 ?_
    have ih := L_RS2 hl m (i + 1) (by omega)
    have h1 : i < s.rows.length := by omega
    obtain ⟨x, hx⟩ : ∃ x, s.rows[i]? = some x := ⟨_, List.getElem?_eq_getElem h1⟩
    have h2 := flat_at (f := FarRow.enc) (w := 2) (fun _ => rfl) hx
    have h4 := wnext h1 hl
    have gx : s.rows.getD i ⟨0, 0⟩ = x := getD_of hx
    rw [range'_cons]
    have hro : FarRow.ok x = (inn x.far 0 20000 && inn x.add 0 100) := rfl
    cases c1 : inn x.far 0 20000
    · have hv : rwAt s.rows i = false := by unfold rwAt; rw [gx, hro, c1]; rfl
      simp [-List.length_flatMap, -List.map_take, e_ref09_RightScale_r0, e_ref09_RightScale_r1, e_ref09_RightScale_r2, e_ref09_RightScale_r3, e_ref09_RightScale_r4, e_ref09_RightScale_r5, e_ref09_RightScale_r7, e_ref09_RightScale_r8, e_ref09_RightScale_r9, e_ref09_RightScale_r10, e_ref09_RightScale_r11, e_ref09_RightScale_r12, e_ref09_RightScale_r14, h1, h2, C_In, c1, hv]
    by_cases h0 : i = 0
    · have h0' : ¬ 0 < i := by omega
      subst h0
      simp only [Nat.zero_mul, List.drop_zero] at h2
      by_cases c2 : x.far = 0
      rotate_left
      · have c2' : (x.far != 0) = true := by simpa using c2
        have hv : rwAt s.rows 0 = false := by unfold rwAt; rw [gx]; simp [c2]
        simp [-List.length_flatMap, -List.map_take, e_ref09_RightScale_r0, e_ref09_RightScale_r1, e_ref09_RightScale_r2, e_ref09_RightScale_r3, e_ref09_RightScale_r4, e_ref09_RightScale_r5, e_ref09_RightScale_r7, e_ref09_RightScale_r8, e_ref09_RightScale_r9, e_ref09_RightScale_r10, e_ref09_RightScale_r11, e_ref09_RightScale_r12, e_ref09_RightScale_r14, h1, h2, C_In, c1, c2', hv]
      have c2' : (x.far != 0) = false := by simp [c2]
      cases c3 : inn x.add 0 100
      · have hv : rwAt s.rows 0 = false := by unfold rwAt; rw [gx, hro, c1, c3]; rfl
        simp [-List.length_flatMap, -List.map_take, e_ref09_RightScale_r0, e_ref09_RightScale_r1, e_ref09_RightScale_r2, e_ref09_RightScale_r3, e_ref09_RightScale_r4, e_ref09_RightScale_r5, e_ref09_RightScale_r7, e_ref09_RightScale_r8, e_ref09_RightScale_r9, e_ref09_RightScale_r10, e_ref09_RightScale_r11, e_ref09_RightScale_r12, e_ref09_RightScale_r14, h1, h2, C_In, c1, c2', c3, hv]
      have hv : rwAt s.rows 0 = true := by unfold rwAt; rw [gx, hro, c1, c3]; simp [risAt, c2]
      rw [hv]
      simp [-List.length_flatMap, -List.map_take, e_ref09_RightScale_r0, e_ref09_RightScale_r1, e_ref09_RightScale_r2, e_ref09_RightScale_r3, e_ref09_RightScale_r4, e_ref09_RightScale_r5, e_ref09_RightScale_r7, e_ref09_RightScale_r8, e_ref09_RightScale_r9, e_ref09_RightScale_r10, e_ref09_RightScale_r11, e_ref09_RightScale_r12, e_ref09_RightScale_r14, h1, h2, h4, C_In, c1, c2', c3]
      exact WL.to ih (by simp) rfl fun x e σ' hh => by simpa using hh
    obtain ⟨y, hy⟩ : ∃ y, s.rows[i - 1]? = some y := ⟨_, List.getElem?_eq_getElem (by omega)⟩
    have h3 := flat_at (f := FarRow.enc) (w := 2) (fun _ => rfl) hy
    have hx' : (s.rows.map (·.far))[i]? = some x.far := by simp [hx]
    have hy' : (s.rows.map (·.far))[i - 1]? = some y.far := by simp [hy]
    have h5 : 0 < i := by omega
    have h6 := w64 (n := (i : Int) - 1) (by omega)
    have h7 : ((i : Int) - 1).toNat = i - 1 := by omega
    have h8 : (1 : Int) ≤ i := by omega
    have h9 : (i : Int) - 1 < s.rows.length := by omega
    have h00 : ((i : Int) == 0) = false := by simpa using h0
    have hv : rwAt s.rows i = (inn x.add 0 100 && decide (y.far < x.far)) := by
      unfold rwAt risAt
      rw [gx, hro, c1, getD_of hx', getD_of hy']
      simp [h0]
    rw [hv]
    by_cases hc : x.far ≤ y.far
    · have hc' : ¬ y.far < x.far := by omega
      simp [-List.length_flatMap, -List.map_take, e_ref09_RightScale_r0, e_ref09_RightScale_r1, e_ref09_RightScale_r2, e_ref09_RightScale_r3, e_ref09_RightScale_r4, e_ref09_RightScale_r5, e_ref09_RightScale_r7, e_ref09_RightScale_r8, e_ref09_RightScale_r9, e_ref09_RightScale_r10, e_ref09_RightScale_r11, e_ref09_RightScale_r12, e_ref09_RightScale_r14, h1, h2, h3, h4, C_In, c1, h00, h0, h5, h6, h7, h8, h9, hc, hc']
    have hc' : y.far < x.far := by omega
    cases c3 : inn x.add 0 100
    · simp [-List.length_flatMap, -List.map_take, e_ref09_RightScale_r0, e_ref09_RightScale_r1, e_ref09_RightScale_r2, e_ref09_RightScale_r3, e_ref09_RightScale_r4, e_ref09_RightScale_r5, e_ref09_RightScale_r7, e_ref09_RightScale_r8, e_ref09_RightScale_r9, e_ref09_RightScale_r10, e_ref09_RightScale_r11, e_ref09_RightScale_r12, e_ref09_RightScale_r14, h1, h2, h3, h4, C_In, c1, h00, h0, h5, h6, h7, h8, h9, hc, c3]
    simp [-List.length_flatMap, -List.map_take, e_ref09_RightScale_r0, e_ref09_RightScale_r1, e_ref09_RightScale_r2, e_ref09_RightScale_r3, e_ref09_RightScale_r4, e_ref09_RightScale_r5, e_ref09_RightScale_r7, e_ref09_RightScale_r8, e_ref09_RightScale_r9, e_ref09_RightScale_r10, e_ref09_RightScale_r11, e_ref09_RightScale_r12, e_ref09_RightScale_r14, h1, h2, h3, h4, C_In, c1, h00, h0, h5, h6, h7, h8, h9, hc, c3]
    exact WL.to ih (by simp) rfl fun x' e σ' hh => by simpa [hc'] using hh

theorem C_RightScale {s : Scale} (hl : s.levels.length ≤ 9223372036854775807) (hr : s.rows.length ≤ 9223372036854775807) :
    lim T (.call false i_ref09_RightScale [.agg [.lst s.levels.length (s.levels.flatMap intE), .lst s.rows.length (s.rows.flatMap FarRow.enc)]] σ) = some (.val (.bool s.ok) σ) := by
  refine call_of T_ref09_RightScale e_ref09_RightScale rfl ?_
  have ho : s.ok = (inn s.levels.length 1 60 && (allB s.levels (fun n => inn n 1 1000000000) && (risB s.levels && (inn s.rows.length 1 20 && (decide ((s.rows.getD 0 ⟨0, 0⟩).far = 0) && (allB s.rows FarRow.ok && risB (s.rows.map (·.far)))))))) := rfl
  simp [-List.length_flatMap, -List.map_take, e_ref09_RightScale_r0, e_ref09_RightScale_r1, e_ref09_RightScale_r2, e_ref09_RightScale_r3, e_ref09_RightScale_r4, e_ref09_RightScale_r5, e_ref09_RightScale_r7, e_ref09_RightScale_r8, e_ref09_RightScale_r9, e_ref09_RightScale_r10, e_ref09_RightScale_r11, e_ref09_RightScale_r12, e_ref09_RightScale_r14]
  refine WL.to (L_RS1 (σ := [] :: σ) (s := s) hl s.levels.length 0 (by omega)) (by simp) rfl ?_
  rintro x e σ' ⟨rfl, h2⟩
  rw [lv_ok] at h2
  cases d1 : allB s.levels (fun n => inn n 1 1000000000) && risB s.levels
  · rw [d1] at h2
    simp at h2
    obtain ⟨rfl, h2⟩ := h2
    have : s.ok = false := by
      rw [ho, ← Bool.and_assoc (allB s.levels _), d1]; simp
    simp [h2, this]
  rw [d1] at h2
  simp at h2
  obtain ⟨rfl, h2⟩ := h2
  simp [-List.length_flatMap, -List.map_take, e_ref09_RightScale_r7, h2]
  refine WL.to (L_RS2 (σ := [] :: σ) (s := s) hr s.rows.length 0 (by omega)) (by simp) rfl ?_
  rintro x e σ' ⟨rfl, h3⟩
  by_cases h0 : 0 < s.rows.length
  · rw [rw_ok h0] at h3
    cases d2 : (decide ((s.rows.getD 0 ⟨0, 0⟩).far = 0) && (allB s.rows FarRow.ok && risB (s.rows.map (·.far))))
    · rw [d2] at h3
      simp at h3
      obtain ⟨rfl, h3⟩ := h3
      have : s.ok = false := by rw [ho, d2]; simp
      simp [h3, this]
    · rw [d2] at h3
      simp at h3
      obtain ⟨rfl, h3⟩ := h3
      have hk : s.ok = (inn s.levels.length 1 60 && inn s.rows.length 1 20) := by
        rw [ho, d2, ← Bool.and_assoc (allB s.levels _), d1]; simp
      rw [hk]
      by_cases e1 : (1 : Int) ≤ s.levels.length <;> by_cases e2 : (s.levels.length : Int) ≤ 60 <;> by_cases e3 : (1 : Int) ≤ s.rows.length <;> by_cases e4 : (s.rows.length : Int) ≤ 20 <;>
        simp [-List.length_flatMap, -List.map_take, e_ref09_RightScale_r14, h3, e1, e2, e3, e4, inn]
  · have h0' : s.rows.length = 0 := by omega
    rw [h0'] at h3
    simp [allB] at h3
    obtain ⟨rfl, h3⟩ := h3
    have hk : s.ok = false := by rw [ho, h0']; simp [inn]
    rw [hk]
    have hnil : s.rows = [] := List.eq_nil_of_length_eq_zero h0'
    rw [hnil] at h3
    simp at h3
    by_cases e1 : (1 : Int) ≤ s.levels.length <;> by_cases e2 : (s.levels.length : Int) ≤ 60 <;>
      simp [-List.length_flatMap, -List.map_take, e_ref09_RightScale_r14, h3, e1, e2]

theorem L_ReadR {n : Net} {l : List Reading} (hl : l.length ≤ 9223372036854775807) (hn : n.st.length ≤ 9223372036854775807) : ∀ (m i : Nat), i + m = l.length →
    WL T [1, 2, 5] false f_ref09_Readings_l6 [(1, .lst l.length (l.flatMap Reading.enc)), (2, .cref n.enc), (5, .int .i64 i)] σ
      (fun x e σ' => σ' = σ ∧ if allB (l.drop i) (Reading.ok n) then x = .exit 0 ∧ get e 1 = .lst l.length (l.flatMap Reading.enc) else x = .ret ∧ get e 4 = .bool false)
  | 0, i, hi => by
    refine WL_step e_ref09_Readings_l6 ?_
    have h1 : ¬ i < l.length := by omega
    have h2 : l.drop i = [] := by simp; omega
    simp [-List.length_flatMap, -List.map_take, e_ref09_Readings_r0, e_ref09_Readings_r1, e_ref09_Readings_r2, e_ref09_Readings_r3, e_ref09_Readings_r4, e_ref09_Readings_r5, e_ref09_Readings_r7, h1, h2, allB]
  | m + 1, i, hi => by
    refine WL_step e_ref09_Readings_l6 ?_
    have ih := L_ReadR hl hn m (i + 1) (by omega)
    have h1 : i < l.length := by omega
    obtain ⟨p, hs⟩ : ∃ x, l[i]? = some x := ⟨_, List.getElem?_eq_getElem h1⟩
    have h2 := flat_at (f := Reading.enc) (w := 2) (fun _ => rfl) hs
    have h4 := wnext h1 hl
    have hw := w64 (n := (n.st.length : Int) - 1) (by omega)
    have hd := drop_at hs
    have ha : allB (l.drop i) (Reading.ok n) = (Reading.ok n p && allB (l.drop (i + 1)) (Reading.ok n)) := by rw [hd]; rfl
    rw [ha]
    have hro : Reading.ok n p = (inn p.st 0 (n.st.length - 1) && inn p.amt 0 1000000000) := rfl
    rw [hro]
    cases c1 : inn p.st 0 (n.st.length - 1)
    · simp [-List.length_flatMap, -List.map_take, e_ref09_Readings_r0, e_ref09_Readings_r1, e_ref09_Readings_r2, e_ref09_Readings_r3, e_ref09_Readings_r4, e_ref09_Readings_r5, e_ref09_Readings_r7, h1, h2, hw, C_In, c1]
    cases c2 : inn p.amt 0 1000000000
    · simp [-List.length_flatMap, -List.map_take, e_ref09_Readings_r0, e_ref09_Readings_r1, e_ref09_Readings_r2, e_ref09_Readings_r3, e_ref09_Readings_r4, e_ref09_Readings_r5, e_ref09_Readings_r7, h1, h2, hw, C_In, c1, c2]
    simp [-List.length_flatMap, -List.map_take, e_ref09_Readings_r0, e_ref09_Readings_r1, e_ref09_Readings_r2, e_ref09_Readings_r3, e_ref09_Readings_r4, e_ref09_Readings_r5, e_ref09_Readings_r7, h1, h2, h4, hw, C_In, c1, c2]
    exact WL.to ih (by simp) rfl fun x e σ' hh => by simpa using hh

theorem C_ReadR {n : Net} {l : List Reading} (hl : l.length ≤ 9223372036854775807) (hn : n.st.length ≤ 9223372036854775807) :
    lim T (.call false i_ref09_Readings [.agg [.lst n.st.length (n.st.flatMap Stn.enc), .int .i64 n.s0.lo, .int .i64 n.s0.hi, .int .i64 n.s1.lo, .int .i64 n.s1.hi, .int .i64 n.low.x, .int .i64 n.low.y, .int .i64 n.low.z, .int .i64 n.high.x, .int .i64 n.high.y, .int .i64 n.high.z, .int .i64 n.step], .lst l.length (l.flatMap Reading.enc)] σ) = some (.val (.bool (inn l.length 1 12 && allB l (Reading.ok n))) σ) := by
  refine call_of T_ref09_Readings e_ref09_Readings rfl ?_
  simp [-List.length_flatMap, -List.map_take, e_ref09_Readings_r0, e_ref09_Readings_r1, e_ref09_Readings_r2, e_ref09_Readings_r3, e_ref09_Readings_r4, e_ref09_Readings_r5, e_ref09_Readings_r7]
  refine WL.to (L_ReadR (σ := [] :: σ) hl hn l.length 0 (by omega)) (by simp) rfl ?_
  rintro x e σ' ⟨rfl, h2⟩
  try simp only [List.drop_zero] at h2
  cases c : allB l (Reading.ok n)
  · rw [c] at h2
    obtain ⟨rfl, h2⟩ := h2
    simp [h2]
  · rw [c] at h2
    obtain ⟨rfl, h2⟩ := h2
    by_cases e1 : (1 : Int) ≤ l.length <;> by_cases e2 : (l.length : Int) ≤ 12 <;> simp [-List.length_flatMap, -List.map_take, h2, e_ref09_Readings_r7, e1, e2, inn]

theorem L_one1 {n : Net} {s : Scale} {p : Pt} {r : Reading} (hl : s.levels.length ≤ 60) : ∀ (m i : Nat) (k : Nat), i + m = s.levels.length → k ≤ i →
    WL T [4, 5, 6, 7, 9, 10] false f_ref09_One_l7 [(4, .cref n.enc), (5, .cref s.enc), (6, .cref p.enc), (7, .cref r.enc), (9, .int .i64 k), (10, .int .i64 i)] σ
      (fun x e σ' => x = .exit 0 ∧ σ' = σ ∧ get e 4 = .cref n.enc ∧ get e 5 = .cref s.enc ∧ get e 6 = .cref p.enc ∧ get e 7 = .cref r.enc ∧ get e 9 = .int .i64 ((k : Int) + ((s.levels.drop i).filter fun x => decide (x ≤ r.amt)).length))
  | 0, i, k, hi, hk => by
    refine WL_step e_ref09_One_l7 ?_
    have h1 : ¬ i < s.levels.length := by omega
    have h2 : s.levels.drop i = [] := by simp; omega
    simp [-List.length_flatMap, -List.map_take, e_ref09_One_r0, e_ref09_One_r1, e_ref09_One_r2, e_ref09_One_r3, e_ref09_One_r4, e_ref09_One_r5, e_ref09_One_r6, e_ref09_One_r8, e_ref09_One_r9, e_ref09_One_r10, e_ref09_One_r11, e_ref09_One_r12, e_ref09_One_r13, e_ref09_One_r15, h1, h2]
  | m + 1, i, k, hi, hk => by
    refine WL_step e_ref09_One_l7 ?_
    have h1 : i < s.levels.length := by omega
    obtain ⟨x, hx⟩ : ∃ x, s.levels[i]? = some x := ⟨_, List.getElem?_eq_getElem h1⟩
    have h2 := flat_at (f := intE) (w := 1) (fun _ => rfl) hx
    simp only [Nat.mul_one] at h2
    have h4 := wnext h1 (by omega)
    have hd := drop_at hx
    by_cases hc : x ≤ r.amt
    · have ih := L_one1 (n := n) (s := s) (p := p) (r := r) hl m (i + 1) (k + 1) (by omega) (by omega)
      have hw := w64 (n := (k : Int) + 1) (by omega)
      simp [-List.length_flatMap, -List.map_take, e_ref09_One_r0, e_ref09_One_r1, e_ref09_One_r2, e_ref09_One_r3, e_ref09_One_r4, e_ref09_One_r5, e_ref09_One_r6, e_ref09_One_r8, e_ref09_One_r9, e_ref09_One_r10, e_ref09_One_r11, e_ref09_One_r12, e_ref09_One_r13, e_ref09_One_r15, h1, h2, h4, hc, hw]
      refine WL.to ih (by simp) rfl fun x' e σ' hh => ?_
      rw [hd]
      obtain ⟨a1, a2, a3, a4, a5, a6, a7⟩ := hh
      refine ⟨a1, a2, a3, a4, a5, a6, ?_⟩
      rw [a7]
      simp only [List.filter_cons, hc, decide_true, if_true, List.length_cons]
      congr 1
      push_cast
      omega
    · have ih := L_one1 (n := n) (s := s) (p := p) (r := r) hl m (i + 1) k (by omega) (by omega)
      simp [-List.length_flatMap, -List.map_take, e_ref09_One_r0, e_ref09_One_r1, e_ref09_One_r2, e_ref09_One_r3, e_ref09_One_r4, e_ref09_One_r5, e_ref09_One_r6, e_ref09_One_r8, e_ref09_One_r9, e_ref09_One_r10, e_ref09_One_r11, e_ref09_One_r12, e_ref09_One_r13, e_ref09_One_r15, h1, h2, h4, hc]
      refine WL.to ih (by simp) rfl fun x' e σ' hh => ?_
      rw [hd]
      simpa [List.filter_cons, hc] using hh

theorem L_one2 {s : Scale} {d k : Int} (hl : s.rows.length ≤ 20) : ∀ (m i : Nat) (acc : Int), i + m = s.rows.length →
    WL T [5, 9, 11, 12, 13] false f_ref09_One_l14 [(5, .cref s.enc), (9, .int .i64 k), (11, .int .i64 d), (12, .int .i64 acc), (13, .int .i64 i)] σ
      (fun x e σ' => x = .exit 2 ∧ σ' = σ ∧ get e 9 = .int .i64 k ∧ get e 12 = .int .i64 ((s.rows.drop i).foldl (fun acc r => if r.far ≤ d then r.add else acc) acc))
  | 0, i, acc, hi => by
    refine WL_step e_ref09_One_l14 ?_
    have h1 : ¬ i < s.rows.length := by omega
    have h2 : s.rows.drop i = [] := by simp; omega
    simp [-List.length_flatMap, -List.map_take, e_ref09_One_r0, e_ref09_One_r1, e_ref09_One_r2, e_ref09_One_r3, e_ref09_One_r4, e_ref09_One_r5, e_ref09_One_r6, e_ref09_One_r8, e_ref09_One_r9, e_ref09_One_r10, e_ref09_One_r11, e_ref09_One_r12, e_ref09_One_r13, e_ref09_One_r15, h1, h2]
  | m + 1, i, acc, hi => by
    refine WL_step e_ref09_One_l14 ?_
    have h1 : i < s.rows.length := by omega
    obtain ⟨r, hx⟩ : ∃ x, s.rows[i]? = some x := ⟨_, List.getElem?_eq_getElem h1⟩
    have h2 := flat_at (f := FarRow.enc) (w := 2) (fun _ => rfl) hx
    have h4 := wnext h1 (by omega)
    have hd := drop_at hx
    by_cases hc : r.far ≤ d
    · have ih := L_one2 (s := s) (d := d) (k := k) hl m (i + 1) r.add (by omega)
      simp [-List.length_flatMap, -List.map_take, e_ref09_One_r0, e_ref09_One_r1, e_ref09_One_r2, e_ref09_One_r3, e_ref09_One_r4, e_ref09_One_r5, e_ref09_One_r6, e_ref09_One_r8, e_ref09_One_r9, e_ref09_One_r10, e_ref09_One_r11, e_ref09_One_r12, e_ref09_One_r13, e_ref09_One_r15, h1, h2, h4, hc]
      refine WL.to ih (by simp) rfl fun x' e σ' hh => ?_
      rw [hd]; simpa [hc] using hh
    · have ih := L_one2 (s := s) (d := d) (k := k) hl m (i + 1) acc (by omega)
      simp [-List.length_flatMap, -List.map_take, e_ref09_One_r0, e_ref09_One_r1, e_ref09_One_r2, e_ref09_One_r3, e_ref09_One_r4, e_ref09_One_r5, e_ref09_One_r6, e_ref09_One_r8, e_ref09_One_r9, e_ref09_One_r10, e_ref09_One_r11, e_ref09_One_r12, e_ref09_One_r13, e_ref09_One_r15, h1, h2, h4, hc]
      refine WL.to ih (by simp) rfl fun x' e σ' hh => ?_
      rw [hd]; simpa [hc] using hh

theorem C_One {n : Net} {s : Scale} {x y z : Int} {r : Reading} (hn : n.ok = true) (hs : s.ok = true) (hp : Pt.ok ⟨x, y, z⟩ = true) (hr : Reading.ok n r = true) :
    lim T (.call false i_ref09_One [.agg [.lst n.st.length (n.st.flatMap Stn.enc), .int .i64 n.s0.lo, .int .i64 n.s0.hi, .int .i64 n.s1.lo, .int .i64 n.s1.hi, .int .i64 n.low.x, .int .i64 n.low.y, .int .i64 n.low.z, .int .i64 n.high.x, .int .i64 n.high.y, .int .i64 n.high.z, .int .i64 n.step], .agg [.lst s.levels.length (s.levels.flatMap intE), .lst s.rows.length (s.rows.flatMap FarRow.enc)], .agg [.int .i64 x, .int .i64 y, .int .i64 z], .agg [.int .i64 r.st, .int .i64 r.amt]] σ) =
      some (.val (.int .i64 (magOf n s ⟨x, y, z⟩ r)) σ) := by
  refine call_of T_ref09_One e_ref09_One rfl ?_
  have h0 := hs
  simp only [Scale.ok, Bool.and_eq_true, inn_iff] at h0
  simp only [Reading.ok, Bool.and_eq_true] at hr
  have hf := net_fine (ph := 0) hn hr.1 (by omega) (by omega)
  have c0 := hf.i0
  have c1 := hf.i1
  have c2 := hf.cells
  have h5 := fun σ => @C_Far σ _ _ _ x y z hf.p hp
  have hm := mag1_bound hs r.amt (dist (n.stn r.st).p ⟨x, y, z⟩)
  simp [-List.length_flatMap, -List.map_take, e_ref09_One_r0, e_ref09_One_r1, e_ref09_One_r2, e_ref09_One_r3, e_ref09_One_r4, e_ref09_One_r5, e_ref09_One_r6, e_ref09_One_r8, e_ref09_One_r9, e_ref09_One_r10, e_ref09_One_r11, e_ref09_One_r12, e_ref09_One_r13, e_ref09_One_r15]
  refine WL.to (L_one1 (σ := [] :: σ) (n := n) (s := s) (p := ⟨x, y, z⟩) (r := r) (by omega) s.levels.length 0 0 (by omega) (by omega)) (by simp) rfl ?_
  rintro x' e σ' ⟨rfl, rfl, a1, a2, a3, a4, a5⟩
  simp only [List.drop_zero, count_lvl (ris_lt h0.2.2.1)] at a5
  simp at a5
  simp [-List.length_flatMap, -List.map_take, a1, a2, a3, a4, a5, e_ref09_One_r8, e_ref09_One_r9, c0, c1, c2, h5]
  refine WL.to (L_one2 (σ := [] :: σ) (s := s) (d := dist (n.stn r.st).p ⟨x, y, z⟩) (k := (lvl s.levels r.amt : Nat)) (by omega) s.rows.length 0 0 (by omega)) (by simp) rfl ?_
  rintro x' e σ' ⟨rfl, rfl, b1, b2⟩
  simp only [List.drop_zero] at b2
  have h6 : magOf n s ⟨x, y, z⟩ r = lvl s.levels r.amt + s.rows.foldl (fun acc q => if q.far ≤ dist (n.stn r.st).p ⟨x, y, z⟩ then q.add else acc) 0 := rfl
  have hw := w64 (n := magOf n s ⟨x, y, z⟩ r) (by unfold magOf; omega)
  rw [h6] at hw ⊢
  simp [-List.length_flatMap, -List.map_take, b1, b2, e_ref09_One_r15, hw]

theorem L_magR {n : Net} {s : Scale} {p : Pt} {l : List Reading} (h : magOk n s p l = true) : ∀ (m i : Nat) (acc : Int), i + m = l.length → 0 ≤ acc → acc ≤ 160 * i →
    WL T [3, 4, 5, 6, 9, 10] false f_ref09_Magnitude_l6 [(3, .lst l.length (l.flatMap Reading.enc)), (4, .cref n.enc), (5, .cref s.enc), (6, .cref p.enc), (9, .int .i64 acc), (10, .int .i64 i)] σ
      (fun x e σ' => x = .exit 0 ∧ σ' = σ ∧ get e 3 = .lst l.length (l.flatMap Reading.enc) ∧ get e 9 = .int .i64 ((l.drop i).foldl (fun acc r => acc + magOf n s p r) acc))
  | 0, i, acc, hi, _, _ => by
    refine WL_step e_ref09_Magnitude_l6 ?_
    have h1 : ¬ i < l.length := by omega
    have h2 : l.drop i = [] := by simp; omega
    simp [-List.length_flatMap, -List.map_take, e_ref09_Magnitude_r0, e_ref09_Magnitude_r1, e_ref09_Magnitude_r2, e_ref09_Magnitude_r3, e_ref09_Magnitude_r4, e_ref09_Magnitude_r5, e_ref09_Magnitude_r7, h1, h2]
  | m + 1, i, acc, hi, ha, hb => by
    refine WL_step e_ref09_Magnitude_l6 ?_
    have hk := h
    simp only [magOk, Bool.and_eq_true, inn_iff] at hk
    have h1 : i < l.length := by omega
    obtain ⟨r, hx⟩ : ∃ x, l[i]? = some x := ⟨_, List.getElem?_eq_getElem h1⟩
    have h2 := flat_at (f := Reading.enc) (w := 2) (fun _ => rfl) hx
    have h4 := wnext h1 (by omega)
    have hd := drop_at hx
    have hr := allB_iff.1 hk.2.2.2.2 r (List.mem_of_getElem? hx)
    have h5 := fun σ => @C_One σ n s p.x p.y p.z r hk.1 hk.2.1 hk.2.2.1 hr
    have hm := mag1_bound hk.2.1 r.amt (dist (n.stn r.st).p p)
    have hw := w64 (n := acc + magOf n s p r) (by unfold magOf; omega)
    have ih := L_magR h m (i + 1) (acc + magOf n s p r) (by omega) (by unfold magOf; omega) (by unfold magOf; push_cast; omega)
    simp only [Pt.eta] at h5
    simp [-List.length_flatMap, -List.map_take, e_ref09_Magnitude_r0, e_ref09_Magnitude_r1, e_ref09_Magnitude_r2, e_ref09_Magnitude_r3, e_ref09_Magnitude_r4, e_ref09_Magnitude_r5, e_ref09_Magnitude_r7, h1, h2, h4, h5, hw]
    refine WL.to ih (by simp) rfl fun x' e σ' hh => ?_
    rw [hd]; simpa using hh

theorem C_MagnitudeR {n : Net} {s : Scale} {x y z : Int} {l : List Reading} (hk : magOk n s ⟨x, y, z⟩ l = true) :
    lim T (.call false i_ref09_Magnitude [.agg [.lst n.st.length (n.st.flatMap Stn.enc), .int .i64 n.s0.lo, .int .i64 n.s0.hi, .int .i64 n.s1.lo, .int .i64 n.s1.hi, .int .i64 n.low.x, .int .i64 n.low.y, .int .i64 n.low.z, .int .i64 n.high.x, .int .i64 n.high.y, .int .i64 n.high.z, .int .i64 n.step], .agg [.lst s.levels.length (s.levels.flatMap intE), .lst s.rows.length (s.rows.flatMap FarRow.enc)], .agg [.int .i64 x, .int .i64 y, .int .i64 z], .lst l.length (l.flatMap Reading.enc)] σ) =
      some (.val (.int .i64 (magSum n s ⟨x, y, z⟩ l / l.length)) σ) := by
  refine call_of T_ref09_Magnitude e_ref09_Magnitude rfl ?_
  have hk' := hk
  simp only [magOk, Bool.and_eq_true, inn_iff] at hk'
  simp [-List.length_flatMap, -List.map_take, e_ref09_Magnitude_r0, e_ref09_Magnitude_r1, e_ref09_Magnitude_r2, e_ref09_Magnitude_r3, e_ref09_Magnitude_r4, e_ref09_Magnitude_r5, e_ref09_Magnitude_r7]
  refine WL.to (L_magR (σ := [] :: σ) hk l.length 0 0 (by omega) (by omega) (by omega)) (by simp) rfl ?_
  rintro x' e σ' ⟨rfl, rfl, h1, h2⟩
  have hb := magSum_bound hk'.2.1 (n := n) (p := ⟨x, y, z⟩) l
  have h3 : (l.length : Int) ≠ 0 := by omega
  have h4 : l ≠ [] := by rintro rfl; simp at h3
  have h5 : (l.drop 0).foldl (fun acc r => acc + magOf n s ⟨x, y, z⟩ r) 0 = magSum n s ⟨x, y, z⟩ l := rfl
  rw [h5] at h2
  have h6 : (magSum n s ⟨x, y, z⟩ l).tdiv l.length = magSum n s ⟨x, y, z⟩ l / l.length := Int.tdiv_eq_ediv_of_nonneg hb.1
  have h7 : 0 ≤ magSum n s ⟨x, y, z⟩ l / l.length := Int.ediv_nonneg hb.1 (by omega)
  have h8 : magSum n s ⟨x, y, z⟩ l / l.length ≤ magSum n s ⟨x, y, z⟩ l := Int.ediv_le_self _ hb.1
  have hw := w64 (n := magSum n s ⟨x, y, z⟩ l / l.length) (by omega)
  simp [-List.length_flatMap, -List.map_take, h1, h2, e_ref09_Magnitude_r7, h3, h4, h6, hw]
end Go.Proofs.Yticpenoicajakaa
