/-
  Beds, models and plans in new memory.
-/
import Derived.Test.YtehandllpmlcoaaGreatQ10
set_option linter.unusedVariables false
set_option linter.unusedSimpArgs false
namespace Go.Proofs.YtehandllpmlcoaaGreat
open Go Go.Abs Go.Rock
variable {σ : Stack}

theorem rw_len (l : List Rw) : (l.flatMap Rw.enc).length = l.length * 5 := flat_len (f := Rw.enc) (w := 5) (fun _ => rfl) l
theorem bore_len (l : List Bore) : (l.flatMap Bore.enc).length = l.length * 3 := flat_len (f := Bore.enc) (w := 3) (fun _ => rfl) l
theorem mdl_len (l : List Mdl) : (l.flatMap Mdl.enc).length = l.length * 2 := flat_len (f := Mdl.enc) (w := 2) (fun _ => rfl) l
theorem cl_mdl (l : List Mdl) : D.cleanL (l.flatMap Mdl.enc) = true := k_clean (fun x => by simp [D.clean, cl_int]) l
theorem L_Table {t : List Rw} (ht : t.length ≤ 20) : ∀ (n i : Nat), i + n = t.length →
    WL T [0, 3, 4] false f_law01_Table_l6 [(0, .lst t.length (t.flatMap Rw.enc)), (3, .sl σ.length 0 i 0 i 5), (4, .int .i64 i)] ([.cells i ((t.take i).flatMap Rw.enc)] :: σ)
      (fun x e σ' => x = .exit 0 ∧ get e 3 = .sl σ.length 0 t.length 0 t.length 5 ∧ σ' = [.cells t.length (t.flatMap Rw.enc)] :: σ)
  | 0, i, hi => by
    refine WL_step e_law01_Table_l6 ?_
    obtain rfl : i = t.length := by omega
    simp [-List.length_flatMap, -List.map_take, eF]
  | n + 1, i, hi => by
    refine WL_step e_law01_Table_l6 ?_
    have h1 : i < t.length := by omega
    obtain ⟨r, hr⟩ : ∃ r, t[i]? = some r := ⟨_, List.getElem?_eq_getElem h1⟩
    have h2 := flat_at (f := Rw.enc) (w := 5) (fun _ => rfl) hr
    have h4 := wnext h1 (by omega)
    have ih := L_Table ht n (i + 1) (by omega)
    have a3 := flat_snoc (f := Rw.enc) hr
    have a4 := rw_len (t.take i)
    rw [List.length_take, Nat.min_eq_left (by omega)] at a4
    have a6 : ((t.take i).flatMap Rw.enc).take (i * 5) = (t.take i).flatMap Rw.enc := List.take_of_length_le (by omega)
    have h7 : (i + 1) * 40 ≤ room := by unfold room; omega
    simp [-List.length_flatMap, -List.map_take, eF, h1, h2, h4, a4, a6, h7]
    exact WL.to ih (by simp) (by simp [← a3]) fun x e σ hh => hh
theorem C_TableK {t : List Rw} (ht : t.length ≤ 20) : lim T (.call true i_law01_Table [.lst t.length (t.flatMap Rw.enc)] ([] :: σ)) = some (.val (.sl σ.length 0 t.length 0 t.length 5) ([.cells t.length (t.flatMap Rw.enc)] :: σ)) := by
  refine call_kp T_law01_Table e_law01_Table rfl ?_
  simp [-List.length_flatMap, -List.map_take, eF]
  refine WL.to (L_Table (σ := σ) ht t.length 0 (by omega)) (by simp) (by simp) ?_
  rintro x e σ' ⟨rfl, g3, rfl⟩
  simp [-List.length_flatMap, -List.map_take, eF, g3]
theorem C_LField {f : Fld} : lim T (.call false i_law02_Field [.agg [.int .i64 f.x, .int .i64 f.y, .int .i64 f.z, .int .i64 f.k]] σ) = some (.val (.agg [.int .i64 f.x, .int .i64 f.y, .int .i64 f.z, .int .i64 f.k]) σ) := by
  refine call_of T_law02_Field e_law02_Field rfl ?_
  simp [-List.length_flatMap, -List.map_take, eF]
def bdD (b : Bed) (L i : Nat) : List D := [.int .i64 b.f.x, .int .i64 b.f.y, .int .i64 b.f.z, .int .i64 b.f.k, .sl L 0 b.tab.length 0 b.tab.length 5, .int .i64 b.stiff, .int .i64 b.lift, .int .i64 b.deep, .sl L 1 i 0 i 3]
theorem L_Bed {b : Bed} (hw : b.wells.length ≤ 8) : ∀ (n i : Nat), i + n = b.wells.length →
    WL T [1, 2, 3, 4] false f_law05_Bed_l6 [(1, .cref [.int .i64 b.f.x, .int .i64 b.f.y, .int .i64 b.f.z, .int .i64 b.f.k, .lst b.tab.length (b.tab.flatMap Rw.enc), .int .i64 b.stiff, .int .i64 b.lift, .int .i64 b.deep, .lst b.wells.length (b.wells.flatMap Bore.enc)]), (2, .own 0 [.int .i64 0, .int .i64 0, .int .i64 0, .int .i64 0, .nils, .int .i64 0, .int .i64 0, .int .i64 0, .nils]), (3, .own 0 (bdD b σ.length i)), (4, .int .i64 i)] ([.cells b.tab.length (b.tab.flatMap Rw.enc), .cells i ((b.wells.take i).flatMap Bore.enc)] :: σ)
      (fun x e σ' => x = .exit 0 ∧ get e 2 = .own 0 [.int .i64 0, .int .i64 0, .int .i64 0, .int .i64 0, .nils, .int .i64 0, .int .i64 0, .int .i64 0, .nils] ∧ get e 3 = .own 0 (bdD b σ.length b.wells.length) ∧ σ' = [.cells b.tab.length (b.tab.flatMap Rw.enc), .cells b.wells.length (b.wells.flatMap Bore.enc)] :: σ)
  | 0, i, hi => by
    refine WL_step e_law05_Bed_l6 ?_
    obtain rfl : i = b.wells.length := by omega
    simp [-List.length_flatMap, -List.map_take, eF, bdD]
  | n + 1, i, hi => by
    refine WL_step e_law05_Bed_l6 ?_
    have h1 : i < b.wells.length := by omega
    obtain ⟨r, hr⟩ : ∃ r, b.wells[i]? = some r := ⟨_, List.getElem?_eq_getElem h1⟩
    have h2 := boreE_at hr
    have h4 := wnext h1 (by omega)
    have ih := L_Bed hw n (i + 1) (by omega)
    have a3 := flat_snoc (f := Bore.enc) hr
    have a4 := bore_len (b.wells.take i)
    rw [List.length_take, Nat.min_eq_left (by omega)] at a4
    have a6 : ((b.wells.take i).flatMap Bore.enc).take (i * 3) = (b.wells.take i).flatMap Bore.enc := List.take_of_length_le (by omega)
    have h7 : (i + 1) * 24 ≤ room := by unfold room; omega
    simp only [bdD] at ih ⊢
    simp [-List.length_flatMap, -List.map_take, eF, h1, h2, h4, a4, a6, h7]
    exact WL.to ih (by simp) (by simp [← a3]) fun x e σ hh => hh
theorem C_LBed {b : Bed} (ht : b.tab.length ≤ 20) (hw : b.wells.length ≤ 8) (hσ : σ ≠ []) : lim T (.call false i_law05_Bed [.agg [.int .i64 b.f.x, .int .i64 b.f.y, .int .i64 b.f.z, .int .i64 b.f.k, .lst b.tab.length (b.tab.flatMap Rw.enc), .int .i64 b.stiff, .int .i64 b.lift, .int .i64 b.deep, .lst b.wells.length (b.wells.flatMap Bore.enc)]] σ) = some (.val (.agg [.int .i64 b.f.x, .int .i64 b.f.y, .int .i64 b.f.z, .int .i64 b.f.k, .lst b.tab.length (b.tab.flatMap Rw.enc), .int .i64 b.stiff, .int .i64 b.lift, .int .i64 b.deep, .lst b.wells.length (b.wells.flatMap Bore.enc)]) σ) := by
  refine call_of T_law05_Bed e_law05_Bed rfl ?_
  have hT := fun σ => C_TableK (σ := σ) ht
  have hF := fun σ => C_LField (σ := σ) (f := b.f)
  simp [-List.length_flatMap, -List.map_take, eF, hF, hT, cl_rw, cl_bore]
  refine WL.to (L_Bed (σ := σ) hw b.wells.length 0 (by omega)) (by simp [bdD]) (by simp) ?_
  rintro x e σ' ⟨rfl, g2, g3, rfl⟩
  simp [-List.length_flatMap, -List.map_take, eF, g2, g3, bdD]
  rw [frz_agg (by simp) (by omega)]
  have hi : ∀ (k : IntKind) (n : Int) (S : Stack), frz (σ.length - 1) (16 - 1) (.int k n) S = (.int k n, S) := fun k n S => frz_clean rfl (by omega)
  simp only [frzL_cons, frzL_nil, hi]
  rw [k_out (f := Rw.enc) (by decide) (fun _ => rfl) (fun x => by simp) hσ (by simp)]
  simp only [List.set_cons_succ, List.set_cons_zero]
  rw [k_out (f := Bore.enc) (by decide) (fun _ => rfl) (fun x => by simp) hσ (by simp)]
  exact ⟨_, rfl⟩
theorem C_LModel {m : Mdl} (hl : m.vals.length ≤ 1000) (hσ : σ ≠ []) : lim T (.call false i_law02_Model [.agg [.str m.name, .lst m.vals.length (m.vals.flatMap intE)]] σ) = some (.val (.agg [.str m.name, .lst m.vals.length (m.vals.flatMap intE)]) σ) := by
  refine call_of T_law02_Model e_law02_Model rfl ?_
  have h8 : m.vals.length * 8 ≤ room := by unfold room; omega
  have i1 := int_len m.vals
  have hfz := k_frz (f := intE) (w := 1) (fun _ => rfl) (fun x => by simp) (l := m.vals) (j := 0) (v := 1) (bs := [.cells 1 (m.vals.flatMap intE)]) (σ := σ) hσ rfl
  simp [-List.length_flatMap, -List.map_take, eF, cl_int, h8, i1, hfz]
theorem L_Models {l : List Mdl} (hl : l.length ≤ 40) (hs : ∀ m ∈ l, m.vals.length ≤ 1000) : ∀ (n i : Nat), i + n = l.length →
    WL T [0, 3, 4] false f_law02_Models_l6 [(0, .lst l.length (l.flatMap Mdl.enc)), (3, .sl σ.length 0 i 0 i 2), (4, .int .i64 i)] ([.cells i ((l.take i).flatMap Mdl.enc)] :: σ)
      (fun x e σ' => x = .exit 0 ∧ get e 3 = .sl σ.length 0 l.length 0 l.length 2 ∧ σ' = [.cells l.length (l.flatMap Mdl.enc)] :: σ)
  | 0, i, hi => by
    refine WL_step e_law02_Models_l6 ?_
    obtain rfl : i = l.length := by omega
    simp [-List.length_flatMap, -List.map_take, eF]
  | n + 1, i, hi => by
    refine WL_step e_law02_Models_l6 ?_
    have h1 : i < l.length := by omega
    obtain ⟨r, hr⟩ : ∃ r, l[i]? = some r := ⟨_, List.getElem?_eq_getElem h1⟩
    have h2 := mdlE_at hr
    have h4 := wnext h1 (by omega)
    have hC := fun σ hσ => C_LModel (σ := σ) (m := r) (hs r (List.mem_of_getElem? hr)) hσ
    have ih := L_Models hl hs n (i + 1) (by omega)
    have a3 := flat_snoc (f := Mdl.enc) hr
    have a4 := mdl_len (l.take i)
    rw [List.length_take, Nat.min_eq_left (by omega)] at a4
    have a6 : ((l.take i).flatMap Mdl.enc).take (i * 2) = (l.take i).flatMap Mdl.enc := List.take_of_length_le (by omega)
    have h7 : (i + 1) * 40 ≤ room := by unfold room; omega
    simp [-List.length_flatMap, -List.map_take, eF, h1, h2, h4, hC, a4, a6, h7, D.clean, cl_int]
    exact WL.to ih (by simp) (by simp [← a3]) fun x e σ hh => hh
theorem C_LModels {l : List Mdl} (hl : l.length ≤ 40) (hs : ∀ m ∈ l, m.vals.length ≤ 1000) (hσ : σ ≠ []) : lim T (.call false i_law02_Models [.lst l.length (l.flatMap Mdl.enc)] σ) = some (.val (.lst l.length (l.flatMap Mdl.enc)) σ) := by
  refine call_of T_law02_Models e_law02_Models rfl ?_
  simp [-List.length_flatMap, -List.map_take, eF]
  refine WL.to (L_Models (σ := σ) hl hs l.length 0 (by omega)) (by simp) (by simp) ?_
  rintro x e σ' ⟨rfl, g3, rfl⟩
  simp [-List.length_flatMap, -List.map_take, eF, g3]
  rw [k_out (f := Mdl.enc) (by decide) (fun _ => rfl) (fun x => by simp [D.clean, cl_int]) hσ (by simp)]
  simp
end Go.Proofs.YtehandllpmlcoaaGreat
