/-
  What the law's own functions and the reference answer: picks, errors, conversions, the lattice.
-/
import Derived.Test.YticpenoicajakaaK4
set_option linter.unusedVariables false
set_option linter.unusedSimpArgs false
namespace Go.Proofs.Yticpenoicajakaa
open Go Go.Abs Go.Trem
variable {σ : Stack}

theorem C_Point {x y z : Int} : lim T (.call false i_law09_Point [.agg [.int .i64 x, .int .i64 y, .int .i64 z]] σ) = some (.val (.agg [.int .i64 x, .int .i64 y, .int .i64 z]) σ) := by
  refine call_of T_law09_Point e_law09_Point rfl ?_
  simp [-List.length_flatMap, -List.map_take, e_law09_Point_r0, e_law09_Point_r1]
theorem C_Range {a b : Int} : lim T (.call false i_law09_Range [.agg [.int .i64 a, .int .i64 b]] σ) = some (.val (.agg [.int .i64 a, .int .i64 b]) σ) := by
  refine call_of T_law09_Range e_law09_Range rfl ?_
  simp [-List.length_flatMap, -List.map_take, e_law09_Range_r0, e_law09_Range_r1]

theorem L_PicksR {n : Net} {l : List Pick} (hl : l.length ≤ 9223372036854775807) (hn : n.st.length ≤ 9223372036854775807) (hp : ∀ p ∈ l, 0 ≤ p.ph) : ∀ (m i : Nat), i + m = l.length →
    WL T [1, 2, 5] false f_ref09_Picks_l6 [(1, .lst l.length (l.flatMap Pick.enc)), (2, .cref n.enc), (5, .int .i64 i)] σ
      (fun x e σ' => σ' = σ ∧ if allB (l.drop i) (Pick.ok n) then x = .exit 0 ∧ get e 1 = .lst l.length (l.flatMap Pick.enc) else x = .ret ∧ get e 4 = .bool false)
  | 0, i, hi => by
    refine WL_step e_ref09_Picks_l6 ?_
    have h1 : ¬ i < l.length := by omega
    have h2 : l.drop i = [] := by simp; omega
    simp [-List.length_flatMap, -List.map_take, e_ref09_Picks_r0, e_ref09_Picks_r1, e_ref09_Picks_r2, e_ref09_Picks_r3, e_ref09_Picks_r4, e_ref09_Picks_r5, e_ref09_Picks_r7, h1, h2, allB]
  | m + 1, i, hi => by
    refine WL_step e_ref09_Picks_l6 ?_
    have ih := L_PicksR hl hn hp m (i + 1) (by omega)
    have h1 : i < l.length := by omega
    obtain ⟨p, hs⟩ : ∃ x, l[i]? = some x := ⟨_, List.getElem?_eq_getElem h1⟩
    have h2 := flat_at (f := Pick.enc) (w := 4) (fun _ => rfl) hs
    have h4 := wnext h1 hl
    have hw := w64 (n := (n.st.length : Int) - 1) (by omega)
    have hd := drop_at hs
    cases c1 : inn p.st 0 (n.st.length - 1)
    · simp [-List.length_flatMap, -List.map_take, e_ref09_Picks_r0, e_ref09_Picks_r1, e_ref09_Picks_r2, e_ref09_Picks_r3, e_ref09_Picks_r4, e_ref09_Picks_r5, e_ref09_Picks_r7, h1, h2, hw, C_In, c1, hd, allB, Pick.ok]
    by_cases c2 : 1 < p.ph
    · have c2' : ¬ p.ph < 2 := by omega
      simp [-List.length_flatMap, -List.map_take, e_ref09_Picks_r0, e_ref09_Picks_r1, e_ref09_Picks_r2, e_ref09_Picks_r3, e_ref09_Picks_r4, e_ref09_Picks_r5, e_ref09_Picks_r7, h1, h2, hw, C_In, c1, c2, c2', hd, allB, Pick.ok]
    have c2' : p.ph < 2 := by omega
    by_cases c3 : p.t.lo < -100000000
    · have c3' : ¬ -100000000 ≤ p.t.lo := by omega
      simp [-List.length_flatMap, -List.map_take, e_ref09_Picks_r0, e_ref09_Picks_r1, e_ref09_Picks_r2, e_ref09_Picks_r3, e_ref09_Picks_r4, e_ref09_Picks_r5, e_ref09_Picks_r7, h1, h2, hw, C_In, c1, c2, c2', c3, c3', hd, allB, Pick.ok, Rg.inn]
    have c3' : -100000000 ≤ p.t.lo := by omega
    by_cases c4 : p.t.hi < p.t.lo
    · have c4' : ¬ p.t.lo ≤ p.t.hi := by omega
      simp [-List.length_flatMap, -List.map_take, e_ref09_Picks_r0, e_ref09_Picks_r1, e_ref09_Picks_r2, e_ref09_Picks_r3, e_ref09_Picks_r4, e_ref09_Picks_r5, e_ref09_Picks_r7, h1, h2, hw, C_In, c1, c2, c2', c3, c3', c4, c4', hd, allB, Pick.ok, Rg.inn]
    have c4' : p.t.lo ≤ p.t.hi := by omega
    by_cases c5 : 100000000 < p.t.hi
    · have c5' : ¬ p.t.hi ≤ 100000000 := by omega
      simp [-List.length_flatMap, -List.map_take, e_ref09_Picks_r0, e_ref09_Picks_r1, e_ref09_Picks_r2, e_ref09_Picks_r3, e_ref09_Picks_r4, e_ref09_Picks_r5, e_ref09_Picks_r7, h1, h2, hw, C_In, c1, c2, c2', c3, c3', c4, c4', c5, c5', hd, allB, Pick.ok, Rg.inn]
    have c5' : p.t.hi ≤ 100000000 := by omega
    simp [-List.length_flatMap, -List.map_take, e_ref09_Picks_r0, e_ref09_Picks_r1, e_ref09_Picks_r2, e_ref09_Picks_r3, e_ref09_Picks_r4, e_ref09_Picks_r5, e_ref09_Picks_r7, h1, h2, h4, hw, C_In, c1, c2, c3, c4, c5]
    refine WL.to ih (by simp) rfl ?_
    rintro x e σ' ⟨h5, h6⟩
    refine ⟨h5, ?_⟩
    have h7 : allB (l.drop i) (Pick.ok n) = allB (l.drop (i + 1)) (Pick.ok n) := by
      rw [hd]; simp [allB, Pick.ok, Rg.inn, c1, c2', c3', c4', c5']
    rw [h7]
    exact h6

theorem C_PicksR {n : Net} {l : List Pick} (hl : l.length ≤ 9223372036854775807) (hn : n.st.length ≤ 9223372036854775807) (hp : ∀ p ∈ l, 0 ≤ p.ph) :
    lim T (.call false i_ref09_Picks [.agg [.lst n.st.length (n.st.flatMap Stn.enc), .int .i64 n.s0.lo, .int .i64 n.s0.hi, .int .i64 n.s1.lo, .int .i64 n.s1.hi, .int .i64 n.low.x, .int .i64 n.low.y, .int .i64 n.low.z, .int .i64 n.high.x, .int .i64 n.high.y, .int .i64 n.high.z, .int .i64 n.step], .lst l.length (l.flatMap Pick.enc)] σ) = some (.val (.bool (allB l (Pick.ok n) && decide (1 ≤ l.length))) σ) := by
  refine call_of T_ref09_Picks e_ref09_Picks rfl ?_
  simp [-List.length_flatMap, -List.map_take, e_ref09_Picks_r0, e_ref09_Picks_r1, e_ref09_Picks_r2, e_ref09_Picks_r3, e_ref09_Picks_r4, e_ref09_Picks_r5, e_ref09_Picks_r7]
  refine WL.to (L_PicksR (σ := [] :: σ) hl hn hp l.length 0 (by omega)) (by simp) rfl ?_
  rintro x e σ' ⟨rfl, h2⟩
  try simp only [List.drop_zero] at h2
  cases c : allB l (Pick.ok n)
  · rw [c] at h2
    obtain ⟨rfl, h2⟩ := h2
    simp [h2]
  · rw [c] at h2
    obtain ⟨rfl, h2⟩ := h2
    by_cases h3 : 1 ≤ l.length
    · have h3' : (1 : Int) ≤ l.length := by omega
      simp [-List.length_flatMap, -List.map_take, h2, e_ref09_Picks_r7, h3, h3']
    · have h3' : ¬ (1 : Int) ≤ l.length := by omega
      simp [-List.length_flatMap, -List.map_take, h2, e_ref09_Picks_r7, h3, h3']

theorem C_wrong {n : Net} {l : List Pick} (hl : l.length ≤ 9223372036854775807) (hn : n.st.length ≤ 9223372036854775807) (hp : ∀ p ∈ l, 0 ≤ p.ph) :
    lim T (.call false i_law09_wrong [.agg [.lst n.st.length (n.st.flatMap Stn.enc), .int .i64 n.s0.lo, .int .i64 n.s0.hi, .int .i64 n.s1.lo, .int .i64 n.s1.hi, .int .i64 n.low.x, .int .i64 n.low.y, .int .i64 n.low.z, .int .i64 n.high.x, .int .i64 n.high.y, .int .i64 n.high.z, .int .i64 n.step], .lst l.length (l.flatMap Pick.enc)] σ) = some (.val (.int .i64 (wrong n l)) σ) := by
  refine call_of T_law09_wrong e_law09_wrong rfl ?_
  have ha := fun σ => C_PicksR (σ := σ) (n := n) (l := l) hl hn hp
  cases c1 : n.ok
  · simp [-List.length_flatMap, -List.map_take, e_law09_wrong_r0, e_law09_wrong_r1, e_law09_wrong_r2, e_law09_wrong_r3, e_law09_wrong_r4, e_law09_wrong_r5, e_law09_wrong_r6, e_law09_wrong_r7, C_Right hn, c1, wrong]
  by_cases c2 : 60 < l.length
  · have c2' : (60 : Int) < l.length := by omega
    simp [-List.length_flatMap, -List.map_take, e_law09_wrong_r0, e_law09_wrong_r1, e_law09_wrong_r2, e_law09_wrong_r3, e_law09_wrong_r4, e_law09_wrong_r5, e_law09_wrong_r6, e_law09_wrong_r7, C_Right hn, c1, c2, c2', wrong]
  have c2' : ¬ (60 : Int) < l.length := by omega
  cases c4 : allB l (Pick.ok n)
  · simp [-List.length_flatMap, -List.map_take, e_law09_wrong_r0, e_law09_wrong_r1, e_law09_wrong_r2, e_law09_wrong_r3, e_law09_wrong_r4, e_law09_wrong_r5, e_law09_wrong_r6, e_law09_wrong_r7, C_Right hn, c1, c2, c2', c4, ha, wrong]
  by_cases c3 : 1 ≤ l.length
  · have c3' : ¬ l.length = 0 := by omega
    have c3'' : l ≠ [] := by rintro rfl; simp at c3
    simp [-List.length_flatMap, -List.map_take, e_law09_wrong_r0, e_law09_wrong_r1, e_law09_wrong_r2, e_law09_wrong_r3, e_law09_wrong_r4, e_law09_wrong_r5, e_law09_wrong_r6, e_law09_wrong_r7, C_Right hn, c1, c2, c2', c3, c3', c3'', c4, ha, wrong]
  · have c3' : l = [] := by cases l with | nil => rfl | cons a l => simp at c3
    subst c3'
    simp at ha
    simp [-List.length_flatMap, -List.map_take, e_law09_wrong_r0, e_law09_wrong_r1, e_law09_wrong_r2, e_law09_wrong_r3, e_law09_wrong_r4, e_law09_wrong_r5, e_law09_wrong_r6, e_law09_wrong_r7, C_Right hn, c1, c4, ha, wrong]

theorem L_PicksL {l : List Pick} (hl : l.length ≤ 100000) : ∀ (m i : Nat), i + m = l.length →
    WL T [0, 3, 4] false f_law09_Picks_l6 [(0, .lst l.length (l.flatMap Pick.enc)), (3, .sl σ.length 0 i 0 i 4), (4, .int .i64 i)] ([.cells i ((l.take i).flatMap Pick.enc)] :: σ)
      (fun x e σ' => x = .exit 0 ∧ get e 3 = .sl σ.length 0 l.length 0 l.length 4 ∧ σ' = [.cells l.length (l.flatMap Pick.enc)] :: σ)
  | 0, i, hi => by
    refine WL_step e_law09_Picks_l6 ?_
    have h1 : ¬ i < l.length := by omega
    have h2 : i = l.length := by omega
    subst h2
    simp [-List.length_flatMap, -List.map_take, e_law09_Picks_r0, e_law09_Picks_r1, e_law09_Picks_r2, e_law09_Picks_r3, e_law09_Picks_r4, e_law09_Picks_r5, e_law09_Picks_r7]
  | m + 1, i, hi => by
    refine WL_step e_law09_Picks_l6 ?_
    have h1 : i < l.length := by omega
    obtain ⟨x, hx⟩ : ∃ x, l[i]? = some x := ⟨_, List.getElem?_eq_getElem h1⟩
    have h2 := flat_at (f := Pick.enc) (w := 4) (fun _ => rfl) hx
    have h3 := flat_take (f := Pick.enc) (w := 4) (fun _ => rfl) (Nat.le_of_lt h1)
    have h4 := flat_snoc (f := Pick.enc) hx
    have h5 := flat_len (f := Pick.enc) (w := 4) (fun _ => rfl) (l.take i)
    have h6 := wnext h1 (by omega)
    have h7 : (i + 1) * 32 ≤ room := by unfold room; omega
    have h8 : min i l.length = i := by omega
    have ih := L_PicksL hl m (i + 1) (by omega)
    simp [-List.length_flatMap, -List.map_take, e_law09_Picks_r0, e_law09_Picks_r1, e_law09_Picks_r2, e_law09_Picks_r3, e_law09_Picks_r4, e_law09_Picks_r5, e_law09_Picks_r7, h1, h2, h3, h5, h6, h7, h8, C_Range]
    refine WL.to ih (by simp) (by simp [← h4]) fun x e σ hh => hh

theorem C_PicksL {l : List Pick} (hl : l.length ≤ 100000) (hσ : σ ≠ []) :
    lim T (.call false i_law09_Picks [.lst l.length (l.flatMap Pick.enc)] σ) = some (.val (.lst l.length (l.flatMap Pick.enc)) σ) := by
  refine call_of T_law09_Picks e_law09_Picks rfl ?_
  simp [-List.length_flatMap, -List.map_take, e_law09_Picks_r0, e_law09_Picks_r1, e_law09_Picks_r2, e_law09_Picks_r3, e_law09_Picks_r4, e_law09_Picks_r5, e_law09_Picks_r7]
  refine WL.to (L_PicksL (σ := σ) hl l.length 0 (by omega)) (by simp) (by simp) ?_
  rintro x e σ' ⟨rfl, h2, rfl⟩
  have h3 : ¬ σ.length ≤ σ.length - 1 := by have := List.length_pos_iff.2 hσ; omega
  have h4 := flat_take (f := Pick.enc) (w := 4) (l := l) (fun _ => rfl) (Nat.le_refl _)
  simp only [List.take_length] at h4
  have h5 : D.cleanL (l.flatMap Pick.enc) = true := cleanL_flat fun x _ => by simp
  simp [-List.length_flatMap, -List.map_take, h2, e_law09_Picks_r7]
  rw [frz_sl h3 (by simp; rfl) (by omega)]
  simp [h4, h5]
end Go.Proofs.Yticpenoicajakaa
