/-
  Flash and Bounds.
-/
import Derived.Test.YtehandllpmlcoaaGreatQ3
set_option linter.unusedVariables false
set_option linter.unusedSimpArgs false
namespace Go.Proofs.YtehandllpmlcoaaGreat
open Go Go.Abs Go.Rock
variable {σ : Stack}

theorem row_in {t : List Rw} (ht : tabOk t = true) {i : Nat} {r : Rw} (h : t[i]? = some r) : (0 ≤ r.l ∧ r.l < r.v ∧ r.v ≤ 4000) ∧ (0 ≤ r.s ∧ r.s ≤ 2000) := by
  simp only [tabOk, Bool.and_eq_true] at ht
  have := allB_iff.1 ht.2.1 r (List.mem_of_getElem? h)
  simp only [Rw.alone, Bool.and_eq_true, inn_iff, decide_eq_true_eq] at this
  obtain ⟨_, _, h3, h4, h5, h6⟩ := this
  exact ⟨⟨h3.1, h5, h6⟩, h4⟩
theorem C_Flash {t : List Rw} (ht : tabOk t = true) {i : Nat} {r : Rw} (hi : t[i]? = some r) {x : Stm} (hx : x.valid = true) :
    lim T (.call false i_steam_Flash [.lst t.length (t.flatMap Rw.enc), .int .i64 i, .agg x.enc] σ) = some (.val (.tup [.agg (parts r x), .int .i64 0]) σ) := by
  refine call_of T_steam_Flash e_steam_Flash rfl ?_
  have hl : t.length ≤ 20 := by
    simp only [tabOk, Bool.and_eq_true] at ht
    have := inn_iff.1 ht.1; omega
  have hil : i < t.length := (List.getElem?_eq_some_iff.1 hi).1
  have h1 := fun σ => C_tabValid (σ := σ) (t := t) (by omega)
  have h2 := fun σ => C_has (σ := σ) (t := t) (n := i) (by omega)
  have h3 := fun σ => C_validS (σ := σ) (x := x)
  have h4 := fun σ => C_tat (σ := σ) hi
  obtain ⟨r1, r2⟩ := row_in ht hi
  have h5 := fun σ => C_of' (σ := σ) r1 r2 hx
  have hin : inn i 0 ((t.length : Int) - 1) = true := inn_iff.2 (by omega)
  rw [hin] at h2
  rw [hx] at h3
  rw [ht] at h1
  simp only [Stm.enc, Rw.enc] at h3 h4 h5
  have hp : (parts r x).length = 10 := rfl
  have hp2 : (parts r x).take 10 = parts r x := rfl
  have hpc : D.cleanL (parts r x) = true := by simp [parts]
  generalize parts r x = P at *
  simp [-List.length_flatMap, -List.map_take, eF, h1, h2, h3, h4, h5, hp, hp2]
  rw [frz_clean (by simp [D.clean, hpc]) (by omega)]
  exact ⟨_, rfl⟩
end Go.Proofs.YtehandllpmlcoaaGreat
