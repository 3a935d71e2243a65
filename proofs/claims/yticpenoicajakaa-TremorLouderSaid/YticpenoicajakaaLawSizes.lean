/-
  The law TremorSizes answers true.
-/
import Derived.Test.YticpenoicajakaaKS
import Derived.Test.YticpenoicajakaaTremTy
import Derived.Test.YticpenoicajakaaLawTravels
set_option linter.unusedVariables false
set_option linter.unusedSimpArgs false
namespace Go.Proofs.Yticpenoicajakaa
open Go Go.Abs Go.Trem
variable {σ : Stack}

theorem L_ReadL {l : List Reading} (hl : l.length ≤ 100000) : ∀ (m i : Nat), i + m = l.length →
    WL T [0, 3, 4] false f_law09_Readings_l6 [(0, .lst l.length (l.flatMap Reading.enc)), (3, .sl σ.length 0 i 0 i 2), (4, .int .i64 i)] ([.cells i ((l.take i).flatMap Reading.enc)] :: σ)
      (fun x e σ' => x = .exit 0 ∧ get e 3 = .sl σ.length 0 l.length 0 l.length 2 ∧ σ' = [.cells l.length (l.flatMap Reading.enc)] :: σ)
  | 0, i, hi => by
    refine WL_step e_law09_Readings_l6 ?_
    have h1 : ¬ i < l.length := by omega
    have h2 : i = l.length := by omega
    subst h2
    simp [-List.length_flatMap, -List.map_take, e_law09_Readings_r0, e_law09_Readings_r1, e_law09_Readings_r2, e_law09_Readings_r3, e_law09_Readings_r4, e_law09_Readings_r5, e_law09_Readings_r7]
  | m + 1, i, hi => by
    refine WL_step e_law09_Readings_l6 ?_
    have h1 : i < l.length := by omega
    obtain ⟨x, hx⟩ : ∃ x, l[i]? = some x := ⟨_, List.getElem?_eq_getElem h1⟩
    have h2 := flat_at (f := Reading.enc) (w := 2) (fun _ => rfl) hx
    have h3 := flat_take (f := Reading.enc) (w := 2) (fun _ => rfl) (Nat.le_of_lt h1)
    have h4 := flat_snoc (f := Reading.enc) hx
    have h5 := flat_len (f := Reading.enc) (w := 2) (fun _ => rfl) (l.take i)
    have h6 := wnext h1 (by omega)
    have h7 : (i + 1) * 16 ≤ room := by unfold room; omega
    have h8 : min i l.length = i := by omega
    have ih := L_ReadL hl m (i + 1) (by omega)
    simp [-List.length_flatMap, -List.map_take, e_law09_Readings_r0, e_law09_Readings_r1, e_law09_Readings_r2, e_law09_Readings_r3, e_law09_Readings_r4, e_law09_Readings_r5, e_law09_Readings_r7, h1, h2, h3, h5, h6, h7, h8]
    refine WL.to ih (by simp) (by simp [← h4]) fun x e σ hh => hh

theorem C_ReadL {l : List Reading} (hl : l.length ≤ 100000) (hσ : σ ≠ []) :
    lim T (.call false i_law09_Readings [.lst l.length (l.flatMap Reading.enc)] σ) = some (.val (.lst l.length (l.flatMap Reading.enc)) σ) := by
  refine call_of T_law09_Readings e_law09_Readings rfl ?_
  simp [-List.length_flatMap, -List.map_take, e_law09_Readings_r0, e_law09_Readings_r1, e_law09_Readings_r2, e_law09_Readings_r3, e_law09_Readings_r4, e_law09_Readings_r5, e_law09_Readings_r7]
  refine WL.to (L_ReadL (σ := σ) hl l.length 0 (by omega)) (by simp) (by simp) ?_
  rintro x e σ' ⟨rfl, h2, rfl⟩
  simp [-List.length_flatMap, -List.map_take, h2, e_law09_Readings_r7]
  rw [frz_out (f := Reading.enc) (fun _ => rfl) (fun x => by simp) hσ rfl]
  simp

theorem L_ScaleL {s : Scale} (hl : s.rows.length ≤ 100000) : ∀ (m i : Nat), i + m = s.rows.length →
    WL T [1, 2, 3, 4] false f_law09_Scale_l6 [(1, .cref s.enc), (2, .own 0 [.nils, .nils]), (3, .own 0 [.lst s.levels.length (s.levels.flatMap intE), .sl σ.length 0 i 0 i 2]), (4, .int .i64 i)]
        ([.cells i ((s.rows.take i).flatMap FarRow.enc)] :: σ)
      (fun x e σ' => x = .exit 0 ∧ get e 2 = .own 0 [.nils, .nils] ∧ get e 3 = .own 0 [.lst s.levels.length (s.levels.flatMap intE), .sl σ.length 0 s.rows.length 0 s.rows.length 2] ∧
        σ' = [.cells s.rows.length (s.rows.flatMap FarRow.enc)] :: σ)
  | 0, i, hi => by
    refine WL_step e_law09_Scale_l6 ?_
    have h1 : ¬ i < s.rows.length := by omega
    have h2 : i = s.rows.length := by omega
    subst h2
    simp [-List.length_flatMap, -List.map_take, e_law09_Scale_r0, e_law09_Scale_r1, e_law09_Scale_r2, e_law09_Scale_r3, e_law09_Scale_r4, e_law09_Scale_r5, e_law09_Scale_r7]
  | m + 1, i, hi => by
    refine WL_step e_law09_Scale_l6 ?_
    have h1 : i < s.rows.length := by omega
    obtain ⟨x, hx⟩ : ∃ x, s.rows[i]? = some x := ⟨_, List.getElem?_eq_getElem h1⟩
    have h2 := flat_at (f := FarRow.enc) (w := 2) (fun _ => rfl) hx
    have h3 := flat_take (f := FarRow.enc) (w := 2) (fun _ => rfl) (Nat.le_of_lt h1)
    have h4 := flat_snoc (f := FarRow.enc) hx
    have h5 := flat_len (f := FarRow.enc) (w := 2) (fun _ => rfl) (s.rows.take i)
    have h6 := wnext h1 (by omega)
    have h7 : (i + 1) * 16 ≤ room := by unfold room; omega
    have h8 : min i s.rows.length = i := by omega
    have ih := L_ScaleL hl m (i + 1) (by omega)
    simp [-List.length_flatMap, -List.map_take, e_law09_Scale_r0, e_law09_Scale_r1, e_law09_Scale_r2, e_law09_Scale_r3, e_law09_Scale_r4, e_law09_Scale_r5, e_law09_Scale_r7, h1, h2, h3, h5, h6, h7, h8]
    refine WL.to ih (by simp) (by simp [← h4]) fun x e σ hh => hh

theorem C_ScaleL {s : Scale} (hl : s.rows.length ≤ 100000) (hv : s.levels.length ≤ 100000) (hσ : σ ≠ []) :
    lim T (.call false i_law09_Scale [.agg [.lst s.levels.length (s.levels.flatMap intE), .lst s.rows.length (s.rows.flatMap FarRow.enc)]] σ) =
      some (.val (.agg [.lst s.levels.length (s.levels.flatMap intE), .lst s.rows.length (s.rows.flatMap FarRow.enc)]) σ) := by
  refine call_of T_law09_Scale e_law09_Scale rfl ?_
  have r1 : s.levels.length * 8 ≤ room := by unfold room; omega
  have l1 := flat_len (f := intE) (w := 1) (fun _ => rfl) s.levels
  simp only [Nat.mul_one] at l1
  simp [-List.length_flatMap, -List.map_take, e_law09_Scale_r0, e_law09_Scale_r1, e_law09_Scale_r2, e_law09_Scale_r3, e_law09_Scale_r4, e_law09_Scale_r5, e_law09_Scale_r7, r1, l1]
  refine WL.to (L_ScaleL (σ := σ) (s := s) hl s.rows.length 0 (by omega)) (by simp) (by simp) ?_
  rintro x e σ' ⟨rfl, h1, h2, rfl⟩
  simp [-List.length_flatMap, -List.map_take, h1, h2, e_law09_Scale_r7]
  have h5 : D.cleanL (s.levels.flatMap intE) = true := cleanL_flat fun x _ => by simp
  rw [frz_agg (by simp [h5]) (by omega)]
  have h3 : ¬ σ.length ≤ σ.length - 1 := by have := List.length_pos_iff.2 hσ; omega
  have h4 := flat_self (f := FarRow.enc) (w := 2) (fun _ => rfl) s.rows
  have h6 : D.cleanL (s.rows.flatMap FarRow.enc) = true := cleanL_flat fun x _ => by simp
  simp only [frzL_cons, frzL_nil]
  rw [frz_clean (d := .lst s.levels.length (s.levels.flatMap intE)) (by simp [h5]) (by omega)]
  rw [frz_sl h3 (cs := s.rows.flatMap FarRow.enc) (by simp) (by omega)]
  simp [h4, h6]

theorem law_Sizes {n : Net} {s : Scale} {x y z : Int} {l : List Reading} (hσ : σ ≠ []) :
    lim T (.call false i_law09_TremorSizes [.agg [.lst n.st.length (n.st.flatMap Stn.enc), .int .i64 n.s0.lo, .int .i64 n.s0.hi, .int .i64 n.s1.lo, .int .i64 n.s1.hi, .int .i64 n.low.x, .int .i64 n.low.y, .int .i64 n.low.z, .int .i64 n.high.x, .int .i64 n.high.y, .int .i64 n.high.z, .int .i64 n.step], .agg [.lst s.levels.length (s.levels.flatMap intE), .lst s.rows.length (s.rows.flatMap FarRow.enc)], .agg [.int .i64 x, .int .i64 y, .int .i64 z], .lst l.length (l.flatMap Reading.enc)] σ) = some (.val (.bool true) σ) := by
  refine call_of T_law09_TremorSizes e_law09_TremorSizes rfl ?_
  by_cases hf : n.st.length ≤ 14
  rotate_left
  · simp [-List.length_flatMap, -List.map_take, e_law09_TremorSizes_r0, e_law09_TremorSizes_r1, e_law09_TremorSizes_r2, e_law09_TremorSizes_r3, e_law09_TremorSizes_r4, e_law09_TremorSizes_r5, e_law09_TremorSizes_r6, C_few0, hf, C_awake]
  by_cases g1 : 14 < l.length
  · have g1' : (14 : Int) < l.length := by omega
    simp [-List.length_flatMap, -List.map_take, e_law09_TremorSizes_r0, e_law09_TremorSizes_r1, e_law09_TremorSizes_r2, e_law09_TremorSizes_r3, e_law09_TremorSizes_r4, e_law09_TremorSizes_r5, e_law09_TremorSizes_r6, C_few0, hf, g1', C_awake]
  have g1' : ¬ (14 : Int) < l.length := by omega
  by_cases g2 : 70 < s.levels.length
  · have g2' : (70 : Int) < s.levels.length := by omega
    simp [-List.length_flatMap, -List.map_take, e_law09_TremorSizes_r0, e_law09_TremorSizes_r1, e_law09_TremorSizes_r2, e_law09_TremorSizes_r3, e_law09_TremorSizes_r4, e_law09_TremorSizes_r5, e_law09_TremorSizes_r6, C_few0, hf, g1', g2', C_awake]
  have g2' : ¬ (70 : Int) < s.levels.length := by omega
  by_cases g3 : 25 < s.rows.length
  · have g3' : (25 : Int) < s.rows.length := by omega
    simp [-List.length_flatMap, -List.map_take, e_law09_TremorSizes_r0, e_law09_TremorSizes_r1, e_law09_TremorSizes_r2, e_law09_TremorSizes_r3, e_law09_TremorSizes_r4, e_law09_TremorSizes_r5, e_law09_TremorSizes_r6, C_few0, hf, g1', g2', g3', C_awake]
  have g3' : ¬ (25 : Int) < s.rows.length := by omega
  have h1 := fun σ (hσ : σ ≠ []) => @C_Net σ n (by omega) hσ
  have h2 := fun σ (hσ : σ ≠ []) => @C_ScaleL σ s (by omega) (by omega) hσ
  have h3 := fun σ (hσ : σ ≠ []) => @C_ReadL σ l (by omega) hσ
  have h4 := fun σ => @C_Magnitude σ n s x y z l (by omega) (by omega) (by omega) (by omega)
  have h5 := fun σ => @C_Right σ n (by omega)
  have h6 := fun σ => @C_RightScale σ s (by omega) (by omega)
  have h7 := fun σ => @C_ReadR σ n l (by omega) (by omega)
  have ho : magOk n s ⟨x, y, z⟩ l = (n.ok && (s.ok && (Pt.ok ⟨x, y, z⟩ && (inn l.length 1 12 && allB l (Reading.ok n))))) := rfl
  cases c1 : n.ok
  · simp only [ho, c1, Bool.false_and, Bool.false_eq_true, if_false] at h4 h5
    simp [-List.length_flatMap, -List.map_take, e_law09_TremorSizes_r0, e_law09_TremorSizes_r1, e_law09_TremorSizes_r2, e_law09_TremorSizes_r3, e_law09_TremorSizes_r4, e_law09_TremorSizes_r5, e_law09_TremorSizes_r6, C_few0, hf, g1', g2', g3', h1, h2, h3, h4, h5, C_Point, C_awake]
  cases c2 : s.ok
  · simp only [ho, c1, c2, Bool.true_and, Bool.false_and, Bool.false_eq_true, if_false] at h4 h5 h6
    simp [-List.length_flatMap, -List.map_take, e_law09_TremorSizes_r0, e_law09_TremorSizes_r1, e_law09_TremorSizes_r2, e_law09_TremorSizes_r3, e_law09_TremorSizes_r4, e_law09_TremorSizes_r5, e_law09_TremorSizes_r6, C_few0, hf, g1', g2', g3', h1, h2, h3, h4, h5, h6, C_Point, C_awake]
  cases c3 : Pt.ok ⟨x, y, z⟩
  · simp only [ho, c1, c2, c3, Bool.true_and, Bool.false_and, Bool.false_eq_true, if_false] at h4 h5 h6
    simp [-List.length_flatMap, -List.map_take, e_law09_TremorSizes_r0, e_law09_TremorSizes_r1, e_law09_TremorSizes_r2, e_law09_TremorSizes_r3, e_law09_TremorSizes_r4, e_law09_TremorSizes_r5, e_law09_TremorSizes_r6, C_few0, hf, g1', g2', g3', h1, h2, h3, h4, h5, h6, C_Point, C_Dot, c3, C_awake]
  cases c4 : (inn l.length 1 12 && allB l (Reading.ok n))
  · simp only [ho, c1, c2, c3, c4, Bool.true_and, Bool.false_eq_true, if_false] at h4 h5 h6 h7
    simp [-List.length_flatMap, -List.map_take, e_law09_TremorSizes_r0, e_law09_TremorSizes_r1, e_law09_TremorSizes_r2, e_law09_TremorSizes_r3, e_law09_TremorSizes_r4, e_law09_TremorSizes_r5, e_law09_TremorSizes_r6, C_few0, hf, g1', g2', g3', h1, h2, h3, h4, h5, h6, h7, C_Point, C_Dot, c3, C_awake]
  have hk : magOk n s ⟨x, y, z⟩ l = true := by rw [ho, c1, c2, c3, c4]; rfl
  have h8 := fun σ => @C_MagnitudeR σ n s x y z l hk
  simp only [hk, c1, c2, c4, if_true] at h4 h5 h6 h7
  simp [-List.length_flatMap, -List.map_take, e_law09_TremorSizes_r0, e_law09_TremorSizes_r1, e_law09_TremorSizes_r2, e_law09_TremorSizes_r3, e_law09_TremorSizes_r4, e_law09_TremorSizes_r5, e_law09_TremorSizes_r6, C_few0, hf, g1', g2', g3', h1, h2, h3, h4, h5, h6, h7, h8, C_Point, C_Dot, c3, C_awake]

theorem go_TremorSizes (x0 x1 x2 x3 : D) (t0 : tyNet.hasV x0) (t1 : tyScale.hasV x1) (t2 : tyPt.hasV x2) (t3 : (Ty.slice 2 tyRg).hasV x3) :
    ∃ σ', lim T (.call false i_law09_TremorSizes [x0, x1, x2, x3] [[]]) = some (.val (.bool true) σ') := by
  obtain ⟨n, rfl, _⟩ := net_of t0
  obtain ⟨s, rfl, _⟩ := scale_of t1
  obtain ⟨p, rfl, _⟩ := pt_ofV t2
  obtain ⟨l, rfl, _⟩ := rows_of (fun ds h => reading_of h) t3
  exact ⟨_, law_Sizes (by simp)⟩
end Go.Proofs.Yticpenoicajakaa
