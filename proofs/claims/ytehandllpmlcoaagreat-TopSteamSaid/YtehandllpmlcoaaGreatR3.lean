/-
  What the functions on tables and beds answer.
-/
import Derived.Test.YtehandllpmlcoaaGreatR2
import Derived.Test.YtehandllpmlcoaaGreatGenS
set_option linter.unusedVariables false
set_option linter.unusedSimpArgs false
namespace Go.Proofs.YtehandllpmlcoaaGreat
open Go Go.Abs Go.Rock
variable {σ : Stack}

theorem C_alone {r : Rw} : lim T (.call false i_steam_Row_alone [.agg r.enc] σ) = some (.val (.bool r.alone) σ) := by
  refine call_of T_steam_Row_alone e_steam_Row_alone rfl ?_
  cases hc1 : inn r.t 0 400
  · simp [-List.length_flatMap, -List.map_take, eF, C_swithin, Rw.alone, hc1]
  cases hc2 : inn r.p 1 10000
  · simp [-List.length_flatMap, -List.map_take, eF, C_swithin, Rw.alone, hc1, hc2]
  cases hc3 : inn r.l 0 4000
  · simp [-List.length_flatMap, -List.map_take, eF, C_swithin, Rw.alone, hc1, hc2, hc3]
  cases hc4 : inn r.s 0 2000
  · simp [-List.length_flatMap, -List.map_take, eF, C_swithin, Rw.alone, hc1, hc2, hc3, hc4]
  by_cases hc5 : r.l < r.v
  rotate_left
  · simp [-List.length_flatMap, -List.map_take, eF, C_swithin, Rw.alone, hc1, hc2, hc3, hc4, hc5]
  simp [-List.length_flatMap, -List.map_take, eF, C_swithin, Rw.alone, hc1, hc2, hc3, hc4, hc5]
theorem C_sall {l : List Rw} (hl : l.length ≤ 1000000000) : lim T (.call false i_steam_all_steam_Row [.lst l.length (l.flatMap Rw.enc), .fn i_steam_Row_alone [] []] σ) = some (.val (.bool (allB l Rw.alone)) σ) :=
  all_of (eltAgg 5 Rw.enc (fun _ => rfl)) (f := i_steam_all_steam_Row) (g := i_steam_all_steam_Row_1) (h := i_slices_ContainsFunc_steam_Row) (i := i_slices_IndexFunc_steam_Row) (l := l) (p := Rw.alone) rfl rfl rfl rfl (by omega) (Tests.fn fun x _ σ => C_alone) rfl
theorem L_tab {t l : List Rw} {o : Rw} (hto : t = o :: l) (hl : l.length ≤ 100) : ∀ (m i : Nat), i + m = l.length →
    WL T [0, 16, 17, 18] false f_steam_Table_valid_l10 [(0, .lst t.length (t.flatMap Rw.enc)), (16, .lst l.length (l.flatMap Rw.enc)), (17, .int .i64 l.length), (18, .int .i64 i)] σ
      (fun x e σ' => σ' = σ ∧ if risesB (t.drop i) then x = .exit 0 else x = .ret ∧ get e 2 = .bool false)
  | 0, i, hi => by
    refine WL_step e_steam_Table_valid_l10 ?_
    have h1 : ¬ i < l.length := by omega
    have h2 : t.drop i = [t[i]'(by subst hto; simp; omega)] := by
      rw [List.drop_eq_getElem_cons (by subst hto; simp; omega), List.drop_eq_nil_of_le (by subst hto; simp; omega)]
    simp [-List.length_flatMap, -List.map_take, eF, h1, h2, risesB]
  | m + 1, i, hi => by
    refine WL_step e_steam_Table_valid_l10 ?_
    have h1 : i < l.length := by omega
    have htl : t.length = l.length + 1 := by subst hto; rfl
    obtain ⟨r, hr⟩ : ∃ r, l[i]? = some r := ⟨_, List.getElem?_eq_getElem h1⟩
    obtain ⟨r0, hr0⟩ : ∃ r0, t[i]? = some r0 := ⟨_, List.getElem?_eq_getElem (by omega)⟩
    have h2 := flat_at (f := Rw.enc) (w := 5) (fun _ => rfl) hr
    have h3 := flat_at (f := Rw.enc) (w := 5) (fun _ => rfl) hr0
    have h4 := wnext h1 (by omega)
    have h6 : t.drop (i + 1) = r :: t.drop (i + 2) := drop_at (by subst hto; simpa using hr)
    have h5 : t.drop i = r0 :: r :: t.drop (i + 2) := by rw [drop_at hr0, h6]
    have ih := L_tab hto hl m (i + 1) (by omega)
    rw [h6] at ih
    rw [h5, risesB]
    have hlt : (i : Int) < (t.length : Int) := by omega
    have hlt' : i < t.length := by omega
    by_cases c1 : r.t ≤ r0.t
    · simp [-List.length_flatMap, -List.map_take, eF, h1, hlt, hlt', h2, h3, h4, c1, Rw.rises]
    by_cases c2 : r.p ≤ r0.p
    · simp [-List.length_flatMap, -List.map_take, eF, h1, hlt, hlt', h2, h3, h4, c1, c2, Rw.rises]
    by_cases c3 : r.l ≤ r0.l
    · simp [-List.length_flatMap, -List.map_take, eF, h1, hlt, hlt', h2, h3, h4, c1, c2, c3, Rw.rises]
    by_cases c4 : r.s < r0.s
    · simp [-List.length_flatMap, -List.map_take, eF, h1, hlt, hlt', h2, h3, h4, c1, c2, c3, c4, Rw.rises]
    · simp [-List.length_flatMap, -List.map_take, eF, h1, hlt, hlt', h2, h3, h4, c1, c2, c3, c4, Rw.rises]
      have hc : r0.t < r.t ∧ r0.p < r.p ∧ r0.l < r.l ∧ r0.s ≤ r.s := by omega
      exact WL.to ih (by simp) rfl fun x e σ' hh => by simpa [hc] using hh
theorem C_tabValid {t : List Rw} (hl : t.length ≤ 1000000000) : lim T (.call false i_steam_Table_valid [.lst t.length (t.flatMap Rw.enc)] σ) = some (.val (.bool (tabOk t)) σ) := by
  refine call_of T_steam_Table_valid e_steam_Table_valid rfl ?_
  have ha := fun σ => C_sall (σ := σ) (l := t) hl
  cases hc1 : inn t.length 2 20
  · simp [-List.length_flatMap, -List.map_take, eF, C_swithin, hc1, tabOk]
  cases hc2 : allB t Rw.alone
  · simp [-List.length_flatMap, -List.map_take, eF, C_swithin, hc1, hc2, ha, tabOk]
  obtain ⟨o, l, hto⟩ : ∃ o l, t = o :: l := by
    cases t with
    | nil => simp [inn] at hc1
    | cons o l => exact ⟨o, l, rfl⟩
  have hi := inn_iff.1 hc1
  have htl : t.length = l.length + 1 := by subst hto; rfl
  have h1 : (1 : Int) ≤ (t.length : Int) := by omega
  have h2 : t.length - 1 = l.length := by omega
  have h3 : ((t.flatMap Rw.enc).drop 5).take (l.length * 5) = l.flatMap Rw.enc := by
    subst hto
    have := k_self (f := Rw.enc) (w := 5) (fun _ => rfl) l
    simpa using this
  simp [-List.length_flatMap, -List.map_take, eF, C_swithin, hc1, hc2, ha, h1, h2, h3]
  refine WL.to (L_tab (σ := [] :: σ) hto (by omega) l.length 0 (by omega)) (by simp) rfl ?_
  rintro x e σ' ⟨rfl, h⟩
  simp only [List.drop_zero] at h
  unfold tabOk
  cases hc3 : risesB t
  · rw [hc3] at h
    simp at h
    simp [h, hc2, hc1]
  · rw [hc3] at h
    simp at h
    subst h
    simp [-List.length_flatMap, -List.map_take, eF, hc2, hc1]
theorem C_CheckTable {l : List Rw} (hl : l.length ≤ 1000000000) : lim T (.call false i_steam_CheckTable [.lst l.length (l.flatMap Rw.enc)] σ) = some (.val (.int .i64 (if tabOk l then 0 else 1)) σ) := by
  refine call_of T_steam_CheckTable e_steam_CheckTable rfl ?_
  cases hc : tabOk l <;> simp [-List.length_flatMap, -List.map_take, eF, C_tabValid hl, hc]
end Go.Proofs.YtehandllpmlcoaaGreat
