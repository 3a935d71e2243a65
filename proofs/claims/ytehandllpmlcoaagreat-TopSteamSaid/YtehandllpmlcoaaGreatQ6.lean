/-
  What is known of the runs.
-/
import Derived.Test.YtehandllpmlcoaaGreatQ5
set_option linter.unusedVariables false
set_option linter.unusedSimpArgs false
namespace Go.Proofs.YtehandllpmlcoaaGreat
open Go Go.Abs Go.Rock
variable {σ : Stack}

/-- What is known of the yields of a tick. -/
structure Yv (b : Bed) (y : List Rock.Blk) : Prop where
  len : y.length = b.wells.length
  ok : ∀ o ∈ y, (0 ≤ o.m ∧ o.m ≤ 1000000) ∧ (0 ≤ o.h ∧ o.h ≤ 10000000000) ∧ (0 ≤ o.k ∧ o.k ≤ 1000000000000)
theorem Yv.of {b : Bed} {s : List Rock.Blk} {rates : List Int} (h : Bv b) (hs : Sv b s) (hr : Rv b rates) : Yv b (yieldsOf b s rates) := by
  refine ⟨by simp [yieldsOf, hr.len], ?_⟩
  intro o ho
  simp only [yieldsOf, List.mem_map] at ho
  obtain ⟨⟨w, r⟩, hm, rfl⟩ := ho
  have hw := wells_ok h w (List.of_mem_zip hm).1
  have hb := hr.ok r (List.of_mem_zip hm).2
  simp only [wellYield]
  split
  · simp
  · obtain ⟨_, h1, h2, h3⟩ := hs.at (i := w.b.toNat) (by omega)
    generalize blkAt s w.b.toNat = x at *
    have h8 : x.m.tdiv 8 = x.m / 8 := Int.tdiv_eq_ediv_of_nonneg (by omega)
    have hq : 0 ≤ min r (x.m.tdiv 8) ∧ min r (x.m.tdiv 8) ≤ x.m := by omega
    exact ⟨⟨hq.1, by simp only [Rock.Blk.out]; omega⟩, out_b h1.1 h2 hq, out_b h1.1 h3 hq⟩
theorem tick_out {b : Bed} {m : Mdl} {s : List Rock.Blk} {rates : List Int} {s' y : List Rock.Blk} (h : Bv b) (hs : Sv b s) (hr : Rv b rates) (ht : tick b m s rates = some (s', y)) : Sv b s' ∧ Yv b y := by
  refine ⟨Sv.next h ht, ?_⟩
  unfold tick at ht
  split at ht
  · simp only [Option.some.injEq, Prod.mk.injEq] at ht
    rw [← ht.2]
    exact Yv.of h hs hr
  · cases ht
/-- What is known of a run. -/
structure Run (b : Bed) (n : Nat) (ss ys : List (List Rock.Blk)) : Prop where
  sl : ss.length = n + 1
  yl : ys.length = n
  sv : ∀ s ∈ ss, Sv b s
  yv : ∀ y ∈ ys, Yv b y
theorem Run.from {b : Bed} {m : Mdl} (h : Fv b m) : ∀ (plan : List (List Int)) (n : Nat) (ss ys : List (List Rock.Blk)) (s : List Rock.Blk) {ss' ys' : List (List Rock.Blk)}, (∀ r ∈ plan, Rv b r) → Run b n ss ys → Sv b s → runFrom b m ss ys s plan = some (ss', ys') → Run b (n + plan.length) ss' ys'
  | [], n, ss, ys, s, ss', ys', hr, h1, h2, he => by
    simp only [runFrom, Option.some.injEq, Prod.mk.injEq] at he
    obtain ⟨rfl, rfl⟩ := he; exact h1
  | r :: plan, n, ss, ys, s, ss', ys', hr, h1, h2, he => by
    simp only [runFrom] at he
    split at he
    · rename_i s' y ht
      obtain ⟨g1, g2⟩ := tick_out h.bv h2 (hr r (List.mem_cons_self ..)) ht
      have := Run.from h plan (n + 1) _ _ _ (fun x hx => hr x (List.mem_cons_of_mem _ hx)) (⟨by simp [h1.sl], by simp [h1.yl], by
        intro x hx
        rcases List.mem_append.1 hx with hx | hx
        · exact h1.sv x hx
        · rw [List.mem_singleton.1 hx]; exact g1, by
        intro x hx
        rcases List.mem_append.1 hx with hx | hx
        · exact h1.yv x hx
        · rw [List.mem_singleton.1 hx]; exact g2⟩ : Run b (n + 1) (ss ++ [s']) (ys ++ [y])) g1 he
      rw [show n + (r :: plan).length = n + 1 + plan.length by simp; omega]
      exact this
    · cases he
theorem Run.of {b : Bed} {m : Mdl} {plan : List (List Int)} {ss ys : List (List Rock.Blk)} (h : Fv b m) (hr : ∀ r ∈ plan, Rv b r) (he : Rock.run b m plan = some (ss, ys)) : Run b plan.length ss ys := by
  have := Run.from h plan 0 _ _ _ hr (⟨rfl, rfl, by simpa using Sv.first h, by simp⟩ : Run b 0 [firstSt b m] []) (Sv.first h) he
  simpa using this
end Go.Proofs.YtehandllpmlcoaaGreat
