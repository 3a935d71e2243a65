/-
  The law LeaseEither answers true.
-/
import Derived.Test.YtcccafphhmcifaaE6
import Derived.Test.YtcccafphhmcifaaW
set_option linter.unusedVariables false
set_option linter.unusedSimpArgs false
namespace Go.Proofs.Ytcccafphhmcifaa
open Go Go.Abs Go.Lease
variable {σ : Stack}

theorem shortL_l {p : Pg} {l : List Yr} : ∀ (ys : List Yr) (now : Int), shortL { p with l := l } ys now = shortL p ys now
  | [], _ => rfl
  | y :: ys, now => by
    have := shortL_l (p := p) (l := l) ys (aft p now p.most)
    simp only [shortL]
    rw [← this]
    rfl
theorem law_Either {p : Pg} : lim T (.call false i_law11_LeaseEither [.agg [.int .i64 p.start, .int .i64 p.gain, .int .i64 p.keep, .int .i64 p.most, .lst p.l.length (p.l.flatMap Yr.enc)]] [[]]) = some (.val (.bool true) [[]]) := by
  refine call_of T_law11_LeaseEither e_law11_LeaseEither rfl ?_
  have hR := fun σ => C_RPg (σ := σ) (p := p)
  cases c1 : pgOk p
  · simp [-List.length_flatMap, -List.map_take, e_law11_LeaseEither_r0, e_law11_LeaseEither_r1, e_law11_LeaseEither_r2, e_law11_LeaseEither_r3, e_law11_LeaseEither_r4, e_law11_LeaseEither_r5, e_law11_LeaseEither_r6, e_law11_LeaseEither_r7, e_law11_LeaseEither_r8, e_law11_LeaseEither_r9, e_law11_LeaseEither_r10, e_law11_LeaseEither_r11, e_law11_LeaseEither_r12, e_law11_LeaseEither_r13, e_law11_LeaseEither_r14, hR, c1, C_wakes]
  have hp1 := pgOk_iff.1 c1
  have hn : p.l.length ≤ 8 := by omega
  have hP := fun σ (hσ : σ ≠ []) => C_Pg (σ := σ) (p := p) (by omega) hσ
  have hD := fun σ (hσ : σ ≠ []) => C_Drill (σ := σ) (p := p) (by omega) hσ
  have hS := fun σ => C_Short (σ := σ) (p := p) (by omega)
  unfold drillD at hD
  unfold shortD at hS
  simp only [c1, if_true] at hD hS
  have hle := leastF_le (p := p) p.l p.start
  cases hs : shortL p p.l p.start with
  | none =>
    have h1 := short_none c1 p.l p.start hp1.2.2.2.2.2 hn hs
    have h2 : ¬ leastF p p.l p.start = 1000000000000 := by omega
    simp only [hs] at hS
    simp only [never, h2, if_false] at hD
    simp [-List.length_flatMap, -List.map_take, e_law11_LeaseEither_r0, e_law11_LeaseEither_r1, e_law11_LeaseEither_r2, e_law11_LeaseEither_r3, e_law11_LeaseEither_r4, e_law11_LeaseEither_r5, e_law11_LeaseEither_r6, e_law11_LeaseEither_r7, e_law11_LeaseEither_r8, e_law11_LeaseEither_r9, e_law11_LeaseEither_r10, e_law11_LeaseEither_r11, e_law11_LeaseEither_r12, e_law11_LeaseEither_r13, e_law11_LeaseEither_r14, hR, hP, hD, hS, c1, C_wakes]
  | some i =>
    have h1 := short_some c1 p.l p.start p.start i hp1.2.2.2.2.2 (Int.le_refl _) hs
    simp only [never] at h1
    simp only [hs] at hS
    simp only [never, h1.1, if_true] at hD
    have hi := h1.2
    by_cases h0 : i = 0
    · subst h0
      simp [-List.length_flatMap, -List.map_take, e_law11_LeaseEither_r0, e_law11_LeaseEither_r1, e_law11_LeaseEither_r2, e_law11_LeaseEither_r3, e_law11_LeaseEither_r4, e_law11_LeaseEither_r5, e_law11_LeaseEither_r6, e_law11_LeaseEither_r7, e_law11_LeaseEither_r8, e_law11_LeaseEither_r9, e_law11_LeaseEither_r10, e_law11_LeaseEither_r11, e_law11_LeaseEither_r12, e_law11_LeaseEither_r13, e_law11_LeaseEither_r14, hR, hP, hD, hS, c1, hi, C_wakes]
      intro h
      rw [h] at hi
      simp at hi
    have hneg : ¬ (i : Int) < 0 := by omega
    have hge : ¬ (p.l.length : Int) ≤ i := by omega
    have h0' : ¬ (i : Int) = 0 := by omega
    have hi2 : (i : Int) ≤ p.l.length := by omega
    have hi3 : i ≤ p.l.length := by omega
    have hi' : ¬ (p.l.length ≤ i) := by omega
    have ht := short_take p.l p.start i hs
    have h2 : pgOk { p with l := p.l.take i } = true := by
      refine pgOk_iff.2 ⟨hp1.1, hp1.2.1, hp1.2.2.1, hp1.2.2.2.1, ?_, fun y hy => hp1.2.2.2.2.2 y (List.mem_of_mem_take hy)⟩
      simp only [List.length_take]
      omega
    have hlt : ({ p with l := p.l.take i } : Pg).l.length ≤ 8 := by simp only [List.length_take]; omega
    have h3 := short_none h2 (p.l.take i) p.start (fun y hy => hp1.2.2.2.2.2 y (List.mem_of_mem_take hy)) hlt (by rw [shortL_l]; exact ht)
    have h4 : ¬ leastF { p with l := p.l.take i } (p.l.take i) p.start = 1000000000000 := by
      simp only [List.length_take] at h3; omega
    have hD2 := fun σ (hσ : σ ≠ []) => C_Drill (σ := σ) (p := { p with l := p.l.take i }) (by omega) hσ
    unfold drillD at hD2
    simp only [h2, never, h4, if_true, if_false] at hD2
    have e1 := k_take (f := Yr.enc) (w := 2) (fun _ => rfl) (l := p.l) (i := i) (by omega)
    have e2 : (p.l.take i).length = i := by simp; omega
    simp only [e2, ← e1] at hD2
    simp [-List.length_flatMap, -List.map_take, e_law11_LeaseEither_r0, e_law11_LeaseEither_r1, e_law11_LeaseEither_r2, e_law11_LeaseEither_r3, e_law11_LeaseEither_r4, e_law11_LeaseEither_r5, e_law11_LeaseEither_r6, e_law11_LeaseEither_r7, e_law11_LeaseEither_r8, e_law11_LeaseEither_r9, e_law11_LeaseEither_r10, e_law11_LeaseEither_r11, e_law11_LeaseEither_r12, e_law11_LeaseEither_r13, e_law11_LeaseEither_r14, hR, hP, hD, hS, c1, hi, hi', h0, h0', hneg, hge, hi2, hi3, hD2, C_wakes]
theorem go_LeaseEither (x0 : D) (t0 : (Ty.struct [.int .i64, .int .i64, .int .i64, .int .i64, .slice 2 (.struct [.int .i64, .int .i64])]).hasV x0) :
    ∃ σ', lim T (.call false i_law11_LeaseEither [x0] [[]]) = some (.val (.bool true) σ') := by
  obtain ⟨p, rfl⟩ := pg_of t0
  exact ⟨_, law_Either⟩
end Go.Proofs.Ytcccafphhmcifaa
