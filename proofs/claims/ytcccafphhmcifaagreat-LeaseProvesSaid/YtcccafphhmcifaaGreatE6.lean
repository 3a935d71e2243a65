/-
  Programmes of layer 11: the law's copy, the document's words (what is valid, the least cost), the year that is short.
-/
import Derived.Test.YtcccafphhmcifaaGreatE5
import Derived.Test.YtcccafphhmcifaaGreatTremTyK
set_option linter.unusedVariables false
set_option linter.unusedSimpArgs false
namespace Go.Proofs.YtcccafphhmcifaaGreat
open Go Go.Abs Go.Lease
variable {σ : Stack}

theorem L_Pg {p : Pg} (hl : p.l.length ≤ 100000) : ∀ (m j v : Nat), j + m = p.l.length →
    WL T [1, 2, 3, 4] false f_law11_Programme_l6 [(1, .cref p.enc), (2, .own 0 [.int .i64 0, .int .i64 0, .int .i64 0, .int .i64 0, .nils]), (3, .own 0 [.int .i64 p.start, .int .i64 p.gain, .int .i64 p.keep, .int .i64 p.most, .sl σ.length 0 v 0 j 2]), (4, .int .i64 j)]
      ([.cells v ((p.l.take j).flatMap Yr.enc)] :: σ)
      (fun x e σ' => ∃ v', x = .exit 0 ∧ get e 2 = .own 0 [.int .i64 0, .int .i64 0, .int .i64 0, .int .i64 0, .nils] ∧ get e 3 = .own 0 [.int .i64 p.start, .int .i64 p.gain, .int .i64 p.keep, .int .i64 p.most, .sl σ.length 0 v' 0 p.l.length 2] ∧ σ' = [.cells v' (p.l.flatMap Yr.enc)] :: σ)
  | 0, j, v, hi => by
    refine WL_step e_law11_Programme_l6 ?_
    have h4 : j = p.l.length := by omega
    subst h4
    simp [-List.length_flatMap, -List.map_take, e_law11_Programme_r0, e_law11_Programme_r1, e_law11_Programme_r2, e_law11_Programme_r3, e_law11_Programme_r4, e_law11_Programme_r5, e_law11_Programme_r7]
  | m + 1, j, v, hi => by
    refine WL_step e_law11_Programme_l6 ?_
    have h1 : j < p.l.length := by omega
    obtain ⟨x, hx⟩ : ∃ x, p.l[j]? = some x := ⟨_, List.getElem?_eq_getElem h1⟩
    have h2 : (p.l.flatMap Yr.enc).drop (j * 2) = .int .i64 x.need :: .int .i64 x.price :: (p.l.flatMap Yr.enc).drop (j * 2 + 2) := by
      have := k_drop (f := Yr.enc) (w := 2) (fun _ => rfl) hx
      simpa using this
    have h3 := flat_take (f := Yr.enc) (w := 2) (fun _ => rfl) (Nat.le_of_lt h1)
    have h4 := flat_snoc (f := Yr.enc) hx
    have h5 := flat_len (f := Yr.enc) (w := 2) (fun _ => rfl) (p.l.take j)
    have h6 := wnext h1 (by omega)
    have h7 : (j + 1) * 16 ≤ room := by unfold room; omega
    have h8 : min j p.l.length = j := by omega
    have ih := L_Pg hl m (j + 1) (v + 1) (by omega)
    simp [-List.length_flatMap, -List.map_take, e_law11_Programme_r0, e_law11_Programme_r1, e_law11_Programme_r2, e_law11_Programme_r3, e_law11_Programme_r4, e_law11_Programme_r5, e_law11_Programme_r7, h1, h2, h3, h5, h6, h7, h8]
    refine WL.to ih (by simp) (by simp [← h4]) fun x e σ hh => hh
theorem C_Pg {p : Pg} (hl : p.l.length ≤ 100000) (hσ : σ ≠ []) : lim T (.call false i_law11_Programme [.agg [.int .i64 p.start, .int .i64 p.gain, .int .i64 p.keep, .int .i64 p.most, .lst p.l.length (p.l.flatMap Yr.enc)]] σ) = some (.val (.agg [.int .i64 p.start, .int .i64 p.gain, .int .i64 p.keep, .int .i64 p.most, .lst p.l.length (p.l.flatMap Yr.enc)]) σ) := by
  refine call_of T_law11_Programme e_law11_Programme rfl ?_
  simp [-List.length_flatMap, -List.map_take, e_law11_Programme_r0, e_law11_Programme_r1, e_law11_Programme_r2, e_law11_Programme_r3, e_law11_Programme_r4, e_law11_Programme_r5, e_law11_Programme_r7]
  refine WL.to (L_Pg (σ := σ) hl p.l.length 0 0 (by omega)) (by simp) (by simp) ?_
  rintro x e σ' ⟨v', rfl, g2, g3, rfl⟩
  simp [-List.length_flatMap, -List.map_take, e_law11_Programme_r7, g2, g3]
  have h3 : ¬ σ.length ≤ σ.length - 1 := by have := List.length_pos_iff.2 hσ; omega
  have h6 := k_self (f := Yr.enc) (w := 2) (fun _ => rfl) p.l
  rw [frz_agg (by simp) (by omega)]
  simp only [frzL_cons, frzL_nil]
  rw [frz_sl h3 (cs := p.l.flatMap Yr.enc) (by simp) (by omega)]
  simp [h6]
theorem L_RPg {p : Pg} (hl : p.l.length ≤ 100000) : ∀ (m i : Nat), i + m = p.l.length →
    WL T [1, 3] false f_ref11_RightProgramme_l8 [(1, .cref p.enc), (3, .int .i64 i)] σ
      (fun x e σ' => σ' = σ ∧ if allB (p.l.drop i) yrOk then x = .exit 0 else x = .ret ∧ get e 2 = .bool false)
  | 0, i, hi => by
    refine WL_step e_ref11_RightProgramme_l8 ?_
    have h1 : ¬ i < p.l.length := by omega
    have h2 : p.l.drop i = [] := List.drop_eq_nil_of_le (by omega)
    rw [h2]
    simp [-List.length_flatMap, -List.map_take, e_ref11_RightProgramme_r0, e_ref11_RightProgramme_r1, e_ref11_RightProgramme_r2, e_ref11_RightProgramme_r3, e_ref11_RightProgramme_r4, e_ref11_RightProgramme_r5, e_ref11_RightProgramme_r6, e_ref11_RightProgramme_r7, e_ref11_RightProgramme_r9, h1, allB_nil]
  | m + 1, i, hi => by
    refine WL_step e_ref11_RightProgramme_l8 ?_
    have h1 : i < p.l.length := by omega
    obtain ⟨y, hx⟩ : ∃ x, p.l[i]? = some x := ⟨_, List.getElem?_eq_getElem h1⟩
    have a1 := yr_at hx
    have w1 := wnext h1 (by omega)
    have ih := L_RPg hl m (i + 1) (by omega)
    rw [dropS hx, allB_cons]
    generalize hG : allB (p.l.drop (i + 1)) yrOk = G at *
    cases c1 : inn y.need 0 30000000
    · simp [-List.length_flatMap, -List.map_take, e_ref11_RightProgramme_r0, e_ref11_RightProgramme_r1, e_ref11_RightProgramme_r2, e_ref11_RightProgramme_r3, e_ref11_RightProgramme_r4, e_ref11_RightProgramme_r5, e_ref11_RightProgramme_r6, e_ref11_RightProgramme_r7, e_ref11_RightProgramme_r9, h1, a1, w1, D_In, c1, yrOk]
    cases c2 : inn y.price 0 1000000
    · simp [-List.length_flatMap, -List.map_take, e_ref11_RightProgramme_r0, e_ref11_RightProgramme_r1, e_ref11_RightProgramme_r2, e_ref11_RightProgramme_r3, e_ref11_RightProgramme_r4, e_ref11_RightProgramme_r5, e_ref11_RightProgramme_r6, e_ref11_RightProgramme_r7, e_ref11_RightProgramme_r9, h1, a1, w1, D_In, c1, c2, yrOk]
    simp [-List.length_flatMap, -List.map_take, e_ref11_RightProgramme_r0, e_ref11_RightProgramme_r1, e_ref11_RightProgramme_r2, e_ref11_RightProgramme_r3, e_ref11_RightProgramme_r4, e_ref11_RightProgramme_r5, e_ref11_RightProgramme_r6, e_ref11_RightProgramme_r7, e_ref11_RightProgramme_r9, h1, a1, w1, D_In, c1, c2, yrOk]
    exact WL.to ih (by simp) rfl fun x e σ hh => by simpa [yrOk, c1, c2] using hh
theorem C_RPg {p : Pg} : lim T (.call false i_ref11_RightProgramme [.agg [.int .i64 p.start, .int .i64 p.gain, .int .i64 p.keep, .int .i64 p.most, .lst p.l.length (p.l.flatMap Yr.enc)]] σ) = some (.val (.bool (pgOk p)) σ) := by
  refine call_of T_ref11_RightProgramme e_ref11_RightProgramme rfl ?_
  cases h1 : inn p.start 0 1000000
  · simp [-List.length_flatMap, -List.map_take, e_ref11_RightProgramme_r0, e_ref11_RightProgramme_r1, e_ref11_RightProgramme_r2, e_ref11_RightProgramme_r3, e_ref11_RightProgramme_r4, e_ref11_RightProgramme_r5, e_ref11_RightProgramme_r6, e_ref11_RightProgramme_r7, e_ref11_RightProgramme_r9, D_In, h1, pgOk]
  cases h2 : inn p.gain 1 1000000
  · simp [-List.length_flatMap, -List.map_take, e_ref11_RightProgramme_r0, e_ref11_RightProgramme_r1, e_ref11_RightProgramme_r2, e_ref11_RightProgramme_r3, e_ref11_RightProgramme_r4, e_ref11_RightProgramme_r5, e_ref11_RightProgramme_r6, e_ref11_RightProgramme_r7, e_ref11_RightProgramme_r9, D_In, h1, h2, pgOk]
  cases h3 : inn p.keep 0 1000
  · simp [-List.length_flatMap, -List.map_take, e_ref11_RightProgramme_r0, e_ref11_RightProgramme_r1, e_ref11_RightProgramme_r2, e_ref11_RightProgramme_r3, e_ref11_RightProgramme_r4, e_ref11_RightProgramme_r5, e_ref11_RightProgramme_r6, e_ref11_RightProgramme_r7, e_ref11_RightProgramme_r9, D_In, h1, h2, h3, pgOk]
  cases h4 : inn p.most 0 3
  · simp [-List.length_flatMap, -List.map_take, e_ref11_RightProgramme_r0, e_ref11_RightProgramme_r1, e_ref11_RightProgramme_r2, e_ref11_RightProgramme_r3, e_ref11_RightProgramme_r4, e_ref11_RightProgramme_r5, e_ref11_RightProgramme_r6, e_ref11_RightProgramme_r7, e_ref11_RightProgramme_r9, D_In, h1, h2, h3, h4, pgOk]
  cases h5 : inn p.l.length 1 8
  · simp [-List.length_flatMap, -List.map_take, e_ref11_RightProgramme_r0, e_ref11_RightProgramme_r1, e_ref11_RightProgramme_r2, e_ref11_RightProgramme_r3, e_ref11_RightProgramme_r4, e_ref11_RightProgramme_r5, e_ref11_RightProgramme_r6, e_ref11_RightProgramme_r7, e_ref11_RightProgramme_r9, D_In, h1, h2, h3, h4, h5, pgOk]
  simp [-List.length_flatMap, -List.map_take, e_ref11_RightProgramme_r0, e_ref11_RightProgramme_r1, e_ref11_RightProgramme_r2, e_ref11_RightProgramme_r3, e_ref11_RightProgramme_r4, e_ref11_RightProgramme_r5, e_ref11_RightProgramme_r6, e_ref11_RightProgramme_r7, e_ref11_RightProgramme_r9, D_In, h1, h2, h3, h4, h5]
  have hl : p.l.length ≤ 100000 := by have := inn_iff.1 h5; omega
  refine WL.to (L_RPg (σ := [] :: σ) hl p.l.length 0 (by omega)) (by simp) rfl ?_
  rintro x e σ' ⟨rfl, hh⟩
  rw [List.drop_zero] at hh
  cases hg : allB p.l yrOk
  · rw [hg] at hh
    simp only [Bool.false_eq_true, if_false] at hh
    obtain ⟨rfl, g2⟩ := hh
    simp [g2, pgOk, h1, h2, h3, h4, h5, hg]
  · rw [hg] at hh
    simp only [if_true] at hh
    subst hh
    simp [-List.length_flatMap, -List.map_take, e_ref11_RightProgramme_r9, pgOk, h1, h2, h3, h4, h5, hg]

/-! ### The least cost by the document's words -/

def shortD (p : Pg) : D := if pgOk p then (match shortL p p.l p.start with | none => .tup [.int .i64 0, .int .i64 7] | some k => .tup [.int .i64 k, .int .i64 0]) else .tup [.int .i64 0, .int .i64 1]
theorem yr_of {ds : List D} (h : (Ty.struct [.int .i64, .int .i64]).has ds) : ∃ x : Yr, ds = x.enc ∧ True := by
  obtain ⟨_, _, rfl, ⟨f, rfl, _⟩, _, _, rfl, ⟨t, rfl, _⟩, rfl⟩ := h
  exact ⟨⟨f, t⟩, rfl, trivial⟩
theorem pg_of {d : D} (h : (Ty.struct [.int .i64, .int .i64, .int .i64, .int .i64, .slice 2 (.struct [.int .i64, .int .i64])]).hasV d) : ∃ p : Pg, d = .agg [.int .i64 p.start, .int .i64 p.gain, .int .i64 p.keep, .int .i64 p.most, .lst p.l.length (p.l.flatMap Yr.enc)] := by
  obtain ⟨cs, rfl, _, _, rfl, ⟨a, rfl, _⟩, _, _, rfl, ⟨b, rfl, _⟩, _, _, rfl, ⟨c, rfl, _⟩, _, _, rfl, ⟨e, rfl, _⟩, _, _, rfl, hs, rfl⟩ := h
  obtain ⟨x, hx⟩ := slice_one hs
  subst hx
  obtain ⟨l, rfl, _⟩ := rows_of (fun ds h => yr_of h) hs
  exact ⟨⟨a, b, c, e, l⟩, by simp⟩
end Go.Proofs.YtcccafphhmcifaaGreat
