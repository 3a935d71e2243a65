/-
  Plans in new memory.
-/
import Derived.Test.YtehandllpmlcoaaR19
set_option linter.unusedVariables false
set_option linter.unusedSimpArgs false
namespace Go.Proofs.Ytehandllpmlcoaa
open Go Go.Abs Go.Rock
variable {σ : Stack}

/-- Rows, each in a block of its own. -/
def rowsI (L : Nat) : Nat → List (List Int) → List D
  | _, [] => []
  | n, l :: t => .sl L n 0 0 l.length 1 :: rowsI L (n + 1) t
def rowBI (l : List Int) : Abs.Blk := .cells 0 (l.flatMap intE)
theorem rowsI_len (L : Nat) : ∀ (n : Nat) (t : List (List Int)), (rowsI L n t).length = t.length
  | n, [] => rfl
  | n, l :: t => by simp [rowsI, rowsI_len L (n + 1) t]
theorem rowsI_snoc (L : Nat) (l : List Int) : ∀ (n : Nat) (t : List (List Int)), rowsI L n (t ++ [l]) = rowsI L n t ++ [.sl L (n + t.length) 0 0 l.length 1]
  | n, [] => by simp [rowsI]
  | n, a :: t => by simp [rowsI, rowsI_snoc L l (n + 1) t, Nat.add_assoc, Nat.add_comm 1]
theorem frz_rows {l0 n : Nat} (h0 : l0 < σ.length) (hn : 1 < n) : ∀ (t : List (List Int)) (A C : List Abs.Blk), frz.frzL (frz l0 n) (rowsI σ.length A.length t) ((A ++ (t.map rowBI ++ C)) :: σ) = (t.flatMap inL, (A ++ (List.replicate t.length .dead ++ C)) :: σ)
  | [], A, C => by simp [rowsI]
  | l :: t, A, C => by
    have h1 : ¬ σ.length ≤ l0 := by omega
    have h2 := k_self (f := intE) (w := 1) (fun _ => rfl) l
    have h3 : 0 < n - 1 := by omega
    have ih := frz_rows h0 hn t (A ++ [.dead]) C
    simp only [List.length_append, List.length_cons, List.length_nil, Nat.zero_add] at ih
    have e1 : frz l0 n (.sl σ.length A.length 0 0 l.length 1) ((A ++ (rowBI l :: (t.map rowBI ++ C))) :: σ) = (.lst l.length (l.flatMap intE), (A ++ (.dead :: (t.map rowBI ++ C))) :: σ) := by
      rw [frz_sl h1 (cs := l.flatMap intE) (by simp [rowBI]) (by omega)]
      simp at h2
      simp [h2, h3, cl_int]
    have e2 : (A ++ (.dead :: (t.map rowBI ++ C))) = (A ++ [.dead]) ++ (t.map rowBI ++ C) := by simp
    simp only [rowsI, frzL_cons, List.map_cons, List.cons_append]
    rw [e1, e2, ih]
    simp [List.replicate_succ, inL]
/-- The segment of a plan that was made. -/
def segP (L : Nat) (t : List (List Int)) : List Abs.Blk := .cells 0 [] :: .cells t.length (rowsI L 2 t) :: t.map rowBI
theorem segP_len {L : Nat} {t : List (List Int)} : (segP L t).length = t.length + 2 := by simp [segP]
theorem L_planC {t : List (List Int)} (ht : t.length ≤ 1000) (hl : ∀ l ∈ t, 1 ≤ l.length ∧ l.length ≤ 1000) : ∀ (m y : Nat), y + m = t.length →
    WL T [0, 3, 4] false f_law05_Plan_l6 [(0, .lst t.length (t.flatMap inL)), (3, .sl σ.length 1 y 0 y 1), (4, .int .i64 y)] (segP σ.length (t.take y) :: σ)
      (fun x e σ' => x = .exit 0 ∧ get e 3 = .sl σ.length 1 t.length 0 t.length 1 ∧ σ' = segP σ.length t :: σ)
  | 0, y, hy => by
    refine WL_step e_law05_Plan_l6 ?_
    have g1 : y = t.length := by omega
    subst g1
    simp [-List.length_flatMap, -List.map_take, eF]
  | m + 1, y, hy => by
    refine WL_step e_law05_Plan_l6 ?_
    have g1 : y < t.length := by omega
    obtain ⟨l, hx⟩ : ∃ x, t[y]? = some x := ⟨_, List.getElem?_eq_getElem g1⟩
    have hll := hl l (List.mem_of_getElem? hx)
    have w1 := wnext g1 (by omega)
    have a1 := flat_at (f := inL) (w := 1) (fun _ => rfl) hx
    simp only [inL, Nat.mul_one] at a1
    have ih := L_planC ht hl m (y + 1) (by omega)
    have h6 : (t.take y).length = y := by simp; omega
    have h7 := room24 (n := y + 1) (by omega)
    have h8 : l.length * 8 ≤ room := by unfold room; omega
    have e1 : t.take (y + 1) = t.take y ++ [l] := by rw [List.take_add_one, hx]; rfl
    have r1 := rowsI_len σ.length 2 (t.take y)
    rw [h6] at r1
    have r2 : (rowsI σ.length 2 (t.take y)).take y = rowsI σ.length 2 (t.take y) := List.take_of_length_le (by omega)
    have r3 := rowsI_snoc σ.length l 2 (t.take y)
    rw [h6] at r3
    have i1 := int_len l
    have hl0 : ¬ l.length = 0 := by omega
    have hl1 : l ≠ [] := fun h => hl0 (by rw [h]; rfl)
    rw [e1] at ih
    unfold segP at ih ⊢
    rw [r3, List.length_append, h6] at ih
    rw [h6]
    generalize rowsI σ.length 2 (t.take y) = R at *
    have e9 : min y t.length = y := by omega
    simp [-List.length_flatMap, -List.map_take, eF, g1, a1, w1, r1, r2, h7, h8, i1, hl0, hl1, inL, e9]
    exact WL.to ih (by simp) (by simp [rowBI]; omega) fun x e σ hh => hh
/-- A plan, kept in an empty segment. -/
theorem C_PlanK {t : List (List Int)} (ht : t.length ≤ 1000) (hl : ∀ l ∈ t, 1 ≤ l.length ∧ l.length ≤ 1000) : lim T (.call true i_law05_Plan [.lst t.length (t.flatMap inL)] ([] :: σ)) = some (.val (.sl σ.length 1 t.length 0 t.length 1) (segP σ.length t :: σ)) := by
  refine call_kp T_law05_Plan e_law05_Plan rfl ?_
  simp [-List.length_flatMap, -List.map_take, eF]
  refine WL.to (L_planC (σ := σ) ht hl t.length 0 (by omega)) (by simp) (by simp [segP, rowsI]) ?_
  rintro x e σ' ⟨rfl, g3, rfl⟩
  simp [-List.length_flatMap, -List.map_take, eF, g3]
/-- A kept plan, written out. -/
theorem frz_plan {l0 n : Nat} (h0 : l0 < σ.length) (hn : 2 < n) {t : List (List Int)} {C : List Abs.Blk} : frz l0 n (.sl σ.length 1 t.length 0 t.length 1) ((.cells 0 [] :: .cells t.length (rowsI σ.length 2 t) :: (t.map rowBI ++ C)) :: σ) =
    (.lst t.length (t.flatMap inL), (.cells 0 [] :: .dead :: (List.replicate t.length .dead ++ C)) :: σ) := by
  have h1 : ¬ σ.length ≤ l0 := by omega
  have r1 := rowsI_len σ.length 2 t
  have r2 : (rowsI σ.length 2 t).take t.length = rowsI σ.length 2 t := List.take_of_length_le (by omega)
  have hN := frz_rows (σ := σ) (n := n - 1) h0 (by omega) t [.cells 0 [], .dead] C
  simp only [List.length_cons, List.length_nil, Nat.zero_add] at hN
  rw [frz_sl h1 (cs := rowsI σ.length 2 t) (by simp) (by omega)]
  simp [r2]
  simp only [List.cons_append, List.nil_append] at hN
  rw [hN]
  simp
theorem C_PlanL {t : List (List Int)} (ht : t.length ≤ 1000) (hl : ∀ l ∈ t, 1 ≤ l.length ∧ l.length ≤ 1000) (hσ : σ ≠ []) : lim T (.call false i_law05_Plan [.lst t.length (t.flatMap inL)] σ) = some (.val (.lst t.length (t.flatMap inL)) σ) := by
  refine call_of T_law05_Plan e_law05_Plan rfl ?_
  simp [-List.length_flatMap, -List.map_take, eF]
  refine WL.to (L_planC (σ := σ) ht hl t.length 0 (by omega)) (by simp) (by simp [segP, rowsI]) ?_
  rintro x e σ' ⟨rfl, g3, rfl⟩
  have h0 : σ.length - 1 < σ.length := by have := List.length_pos_iff.2 hσ; omega
  have hf := frz_plan (σ := σ) (n := 16) h0 (by decide) (t := t) (C := [])
  simp only [List.append_nil] at hf
  simp [-List.length_flatMap, -List.map_take, eF, g3, segP, hf]
end Go.Proofs.Ytehandllpmlcoaa
