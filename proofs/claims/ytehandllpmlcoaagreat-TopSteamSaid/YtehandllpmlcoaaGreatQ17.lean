/-
  Plans in new memory; a bed that stays as it is.
-/
import Derived.Test.YtehandllpmlcoaaGreatQ16
set_option linter.unusedVariables false
set_option linter.unusedSimpArgs false
namespace Go.Proofs.YtehandllpmlcoaaGreat
open Go Go.Abs Go.Rock
variable {σ : Stack}

/-- Rows, each in a block of its own. -/
def rowsI (L : Nat) : Nat → List (List Int) → List D
  | _, [] => []
  | n, l :: t => .sl L n 0 0 l.length 1 :: rowsI L (n + 1) t
def rowBI (l : List Int) : Abs.Blk := .cells 0 (l.flatMap intE)
theorem rowsI_len (L : Nat) : ∀ (n : Nat) (t : List (List Int)), (rowsI L n t).length = t.length
  | n, [] => rfl
  | n, l :: t => by simp [rowsI, rowsI_len L (n + 1) t]
theorem rowsI_snoc (L : Nat) (l : List Int) : ∀ (n : Nat) (t : List (List Int)), rowsI L n (t ++ [l]) = rowsI L n t ++ [.sl L (n + t.length) 0 0 l.length 1]
  | n, [] => by simp [rowsI]
  | n, a :: t => by simp [rowsI, rowsI_snoc L l (n + 1) t, Nat.add_assoc, Nat.add_comm 1]
theorem frz_rows {l0 n : Nat} (h0 : l0 < σ.length) (hn : 1 < n) : ∀ (t : List (List Int)) (A C : List Abs.Blk), frz.frzL (frz l0 n) (rowsI σ.length A.length t) ((A ++ (t.map rowBI ++ C)) :: σ) = (t.flatMap inL, (A ++ (List.replicate t.length .dead ++ C)) :: σ)
  | [], A, C => by simp [rowsI]
  | l :: t, A, C => by
    have h1 : ¬ σ.length ≤ l0 := by omega
    have h2 := k_self (f := intE) (w := 1) (fun _ => rfl) l
    have h3 : 0 < n - 1 := by omega
    have ih := frz_rows h0 hn t (A ++ [.dead]) C
    simp only [List.length_append, List.length_cons, List.length_nil, Nat.zero_add] at ih
    have e1 : frz l0 n (.sl σ.length A.length 0 0 l.length 1) ((A ++ (rowBI l :: (t.map rowBI ++ C))) :: σ) = (.lst l.length (l.flatMap intE), (A ++ (.dead :: (t.map rowBI ++ C))) :: σ) := by
      rw [frz_sl h1 (cs := l.flatMap intE) (by simp [rowBI]) (by omega)]
      simp at h2
      simp [h2, h3, cl_int]
    have e2 : (A ++ (.dead :: (t.map rowBI ++ C))) = (A ++ [.dead]) ++ (t.map rowBI ++ C) := by simp
    simp only [rowsI, frzL_cons, List.map_cons, List.cons_append]
    rw [e1, e2, ih]
    simp [List.replicate_succ, inL]
/-- The segment of a plan that was made. -/
def segP (L : Nat) (t : List (List Int)) : List Abs.Blk := .cells t.length (rowsI L 1 t) :: t.map rowBI
theorem L_planC {t : List (List Int)} (ht : t.length ≤ 1000) (hl : ∀ l ∈ t, 1 ≤ l.length ∧ l.length ≤ 1000) : ∀ (m y : Nat), y + m = t.length →
    WL T [0, 3, 4] false f_law05_Plan_l6 [(0, .lst t.length (t.flatMap inL)), (3, .sl σ.length 0 y 0 y 1), (4, .int .i64 y)] (segP σ.length (t.take y) :: σ)
      (fun x e σ' => x = .exit 0 ∧ get e 3 = .sl σ.length 0 t.length 0 t.length 1 ∧ σ' = segP σ.length t :: σ)
  | 0, y, hy => by
    refine WL_step e_law05_Plan_l6 ?_
    have g1 : y = t.length := by omega
    subst g1
    simp [-List.length_flatMap, -List.map_take, eF]
  | m + 1, y, hy => by
    refine WL_step e_law05_Plan_l6 ?_
    have g1 : y < t.length := by omega
    obtain ⟨l, hx⟩ : ∃ x, t[y]? = some x := ⟨_, List.getElem?_eq_getElem g1⟩
    have hll := hl l (List.mem_of_getElem? hx)
    have w1 := wnext g1 (by omega)
    have a1 := flat_at (f := inL) (w := 1) (fun _ => rfl) hx
    simp only [inL, Nat.mul_one] at a1
    have ih := L_planC ht hl m (y + 1) (by omega)
    have h6 : (t.take y).length = y := by simp; omega
    have h7 := room24 (n := y + 1) (by omega)
    have h8 : l.length * 8 ≤ room := by unfold room; omega
    have e1 : t.take (y + 1) = t.take y ++ [l] := by rw [List.take_add_one, hx]; rfl
    have r1 := rowsI_len σ.length 1 (t.take y)
    rw [h6] at r1
    have r2 : (rowsI σ.length 1 (t.take y)).take y = rowsI σ.length 1 (t.take y) := List.take_of_length_le (by omega)
    have r3 := rowsI_snoc σ.length l 1 (t.take y)
    rw [h6] at r3
    have i1 := int_len l
    have hl0 : ¬ l.length = 0 := by omega
    have hl1 : l ≠ [] := fun h => hl0 (by rw [h]; rfl)
    rw [e1] at ih
    unfold segP at ih ⊢
    rw [r3, List.length_append, h6] at ih
    rw [h6]
    generalize rowsI σ.length 1 (t.take y) = R at *
    have e9 : min y t.length = y := by omega
    simp [-List.length_flatMap, -List.map_take, eF, g1, a1, w1, r1, r2, h7, h8, i1, hl0, hl1, inL, e9]
    exact WL.to ih (by simp) (by simp [rowBI]; omega) fun x e σ hh => hh
/-- A kept plan, written out. -/
theorem frz_plan {l0 n : Nat} (h0 : l0 < σ.length) (hn : 2 < n) {t : List (List Int)} : frz l0 n (.sl σ.length 0 t.length 0 t.length 1) (segP σ.length t :: σ) =
    (.lst t.length (t.flatMap inL), (.dead :: (List.replicate t.length .dead ++ [])) :: σ) := by
  have h1 : ¬ σ.length ≤ l0 := by omega
  have r1 := rowsI_len σ.length 1 t
  have r2 : (rowsI σ.length 1 t).take t.length = rowsI σ.length 1 t := List.take_of_length_le (by omega)
  have hN := frz_rows (σ := σ) (n := n - 1) h0 (by omega) t [.dead] []
  simp only [List.length_cons, List.length_nil, Nat.zero_add] at hN
  unfold segP
  rw [frz_sl h1 (cs := rowsI σ.length 1 t) (by simp) (by omega)]
  simp [r2]
  simp only [List.cons_append, List.nil_append, List.append_nil] at hN
  rw [hN]
  simp
theorem C_PlanL1 {t : List (List Int)} (ht : t.length ≤ 1000) (hl : ∀ l ∈ t, 1 ≤ l.length ∧ l.length ≤ 1000) (hσ : σ ≠ []) : lim T (.call false i_law05_Plan [.lst t.length (t.flatMap inL)] σ) = some (.val (.lst t.length (t.flatMap inL)) σ) := by
  refine call_of T_law05_Plan e_law05_Plan rfl ?_
  simp [-List.length_flatMap, -List.map_take, eF]
  refine WL.to (L_planC (σ := σ) ht hl t.length 0 (by omega)) (by simp) (by simp [segP, rowsI]) ?_
  rintro x e σ' ⟨rfl, g3, rfl⟩
  have h0 : σ.length - 1 < σ.length := by have := List.length_pos_iff.2 hσ; omega
  have hf := frz_plan (σ := σ) (n := 16) h0 (by decide) (t := t)
  simp [-List.length_flatMap, -List.map_take, eF, g3, hf]
theorem flat_nil {t : List (List Int)} (hl : ∀ l ∈ t, l = []) : t.flatMap inL = List.replicate t.length (.lst 0 []) := by
  induction t with
  | nil => rfl
  | cons a t ih =>
    rw [List.flatMap_cons, ih fun l h => hl l (List.mem_cons_of_mem _ h), hl a (List.mem_cons_self ..)]
    simp [inL, List.replicate_succ]
theorem flat_one (l : List Nat) : (l.flatMap fun _ => [D.lst 0 []]) = List.replicate l.length (.lst 0 []) := by
  induction l with
  | nil => rfl
  | cons a l ih => rw [List.flatMap_cons, ih]; rfl
theorem L_plan0 {n : Nat} (hn : n ≤ 1000) : ∀ (m y : Nat), y + m = n →
    WL T [0, 3, 4] false f_law05_Plan_l6 [(0, .lst n (List.replicate n (.lst 0 []))), (3, .sl σ.length 0 y 0 y 1), (4, .int .i64 y)] ([.cells y (List.replicate y (.lst 0 []))] :: σ)
      (fun x e σ' => x = .exit 0 ∧ get e 3 = .sl σ.length 0 n 0 n 1 ∧ σ' = [.cells n (List.replicate n (.lst 0 []))] :: σ)
  | 0, y, hy => by
    refine WL_step e_law05_Plan_l6 ?_
    obtain rfl : y = n := by omega
    simp [-List.length_flatMap, -List.map_take, eF]
  | m + 1, y, hy => by
    refine WL_step e_law05_Plan_l6 ?_
    have g1 : y < n := by omega
    have w1 := wnext g1 (by omega)
    have ih := L_plan0 hn m (y + 1) (by omega)
    have h7 := room24 (n := y + 1) (by omega)
    have a1 : ((List.replicate n (D.lst 0 [])).drop y).take 1 = [.lst 0 []] := by
      rw [List.drop_replicate, List.take_replicate, Nat.min_eq_left (by omega)]; rfl
    have r1 : List.replicate (y + 1) (D.lst 0 []) = List.replicate y (.lst 0 []) ++ [.lst 0 []] := List.replicate_succ'
    rw [r1] at ih
    have hm : min 1 (n - y) = 1 := by omega
    simp [-List.length_flatMap, -List.map_take, eF, g1, hm, w1, h7]
    exact WL.to ih (by simp) (by simp) fun x e σ hh => hh
theorem C_PlanL {b : Bed} {t : List (List Int)} (hw : b.wells.length ≤ 8) (ht : t.length ≤ 1000) (hr : ∀ r ∈ t, Rv b r) (hσ : σ ≠ []) : lim T (.call false i_law05_Plan [.lst t.length (t.flatMap inL)] σ) = some (.val (.lst t.length (t.flatMap inL)) σ) := by
  by_cases hc : b.wells.length = 0
  · have h0 : ∀ l ∈ t, l = [] := fun l h => List.length_eq_zero_iff.1 (by rw [(hr l h).len]; exact hc)
    refine call_of T_law05_Plan e_law05_Plan rfl ?_
    rw [flat_nil h0]
    simp [-List.length_flatMap, -List.map_take, eF]
    refine WL.to (L_plan0 (σ := σ) (n := t.length) ht t.length 0 (by omega)) (by simp) (by simp) ?_
    rintro x e σ' ⟨rfl, g3, rfl⟩
    have hk := k_out (n := 16) (f := fun _ : Nat => [D.lst 0 []]) (w := 1) (l := List.range t.length) (j := 0) (v := t.length) (bs := [.cells t.length ((List.range t.length).flatMap fun _ => [D.lst 0 []])]) (by decide) (fun _ => rfl) (fun x => by simp [D.clean]) hσ rfl
    have he := flat_one (List.range t.length)
    rw [List.length_range] at he
    rw [List.length_range, he] at hk
    simp [-List.length_flatMap, -List.map_take, eF, g3, hk]
  · exact C_PlanL1 ht (fun l h => by rw [(hr l h).len]; omega) hσ
theorem C_Three : lim T (.call false i_law01_Three [] σ) = some (.val (.lst 3 (Rock.three.flatMap Rock.Rw.enc)) σ) := by
  refine call_of T_law01_Three e_law01_Three rfl ?_
  simp [-List.length_flatMap, -List.map_take, eF, Rock.three]
theorem C_still (hσ : σ ≠ []) : lim T (.call false i_top_still [] σ) = some (.val (.bool true) σ) := by
  refine call_of T_top_still e_top_still rfl ?_
  have hP := fun σ hσ => C_Play (σ := σ) (b := Rock.stillB) (m := Rock.stillM) (plan := [[]]) (wq := .nils) (by rfl) (by decide) (by decide) (by decide) (by decide) (by decide) (by decide) hσ
  have hE : playE Rock.stillB Rock.stillM [[]] = 0 := by simp [playE, Rock.still_bd, Rock.still_plan, Rock.still_run]
  have hD : playD Rock.stillB Rock.stillM [[]] = .agg [.lst 2 [.lst 1 [.int .i64 1000, .int .i64 2000, .int .i64 0], .lst 1 [.int .i64 1000, .int .i64 2000, .int .i64 0]], .lst 1 [.lst 0 []]] := by
    simp [playD, hE, Rock.still_run, stL]
  rw [hD, hE] at hP
  simp [Rock.stillB, Rock.stillM, inL, show Rock.three.length = 3 from rfl] at hP
  simp [-List.length_flatMap, -List.map_take, eF, C_Three, hP]
/-- Play of a model that fits. -/
theorem C_PlayOk {b : Bed} {l : List Mdl} {plan : List (List Int)} (h : Ok b l plan) {m : Mdl} (hm : m ∈ l) {r : RunT} (hr : Rock.run b m plan = some r) (hσ : σ ≠ []) :
    lim T (.call false i_rock_Play [.agg [.int .i64 b.f.x, .int .i64 b.f.y, .int .i64 b.f.z, .int .i64 b.f.k, .lst b.tab.length (b.tab.flatMap Rw.enc), .int .i64 b.stiff, .int .i64 b.lift, .int .i64 b.deep, .lst b.wells.length (b.wells.flatMap Bore.enc)], .agg [.str m.name, .lst m.vals.length (m.vals.flatMap intE)], .lst plan.length (plan.flatMap inL)] σ) = some (.val (.tup [.agg [.lst r.1.length (r.1.flatMap stL), .lst r.2.length (r.2.flatMap stL)], .int .i64 0]) σ) := by
  have htab := h.bv.tab
  have ht : b.tab.length ≤ 20 := by
    simp only [tabOk, Bool.and_eq_true] at htab
    have := inn_iff.1 htab.1; omega
  have hp := h.plen
  have hw := h.bv.wells
  obtain ⟨s1, s2⟩ := h.short m hm
  have hP := C_Play (σ := σ) (b := b) (m := m) (plan := plan) (wq := .lst b.wells.length (b.wells.flatMap Bore.enc)) (by simp) (by omega) (by omega) s1 (by omega) (by omega) (fun l hl => by rw [(h.rates l hl).len]; omega) hσ
  have hb : Bd b m = true := by simp [Bd, h.valid, h.fit m hm]
  obtain ⟨ss, ys⟩ := r
  have hE : playE b m plan = 0 := by simp [playE, hb, h.pl, hr]
  have hD : playD b m plan = .agg [.lst ss.length (ss.flatMap stL), .lst ys.length (ys.flatMap stL)] := by simp [playD, hE, hr]
  rw [hD, hE] at hP
  exact hP
end Go.Proofs.YtehandllpmlcoaaGreat
