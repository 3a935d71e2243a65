/-
  The law TrialProves answers true.
-/
import Derived.Test.YtcjjdaifpboaaaaH14
import Derived.Test.YtcjjdaifpboaaaaW3
set_option linter.unusedVariables false
set_option linter.unusedSimpArgs false
namespace Go.Proofs.Ytcjjdaifpboaaaa
open Go Go.Abs Go.Trial
variable {σ : Stack}

theorem C_ConflictsK {t : Test} (h : Tv t) : lim T (.call true i_ref04_Conflicts [.agg [.int .i64 t.a.lo, .int .i64 t.a.hi, .int .i64 t.b.lo, .int .i64 t.b.hi, .int .i64 t.c.lo, .int .i64 t.c.hi, .lst t.st.length (t.st.flatMap Step.enc)]] ([] :: σ)) = some (.val (.sl σ.length 0 (prs t).length 0 (prs t).length 2) ([.cells (prs t).length ((prs t).flatMap prE)] :: σ)) := by
  refine call_kp T_ref04_Conflicts e_ref04_Conflicts rfl ?_
  have hw := h.bw
  have hl := @upto_len t.b.lo t.b.hi
  simp [-List.length_flatMap, -List.map_take, e_ref04_Conflicts_r0, e_ref04_Conflicts_r1, e_ref04_Conflicts_r2, e_ref04_Conflicts_r3, e_ref04_Conflicts_r4, e_ref04_Conflicts_r5, e_ref04_Conflicts_r6, e_ref04_Conflicts_r7, e_ref04_Conflicts_r9, e_ref04_Conflicts_r11]
  refine WL.to (L_co1 (σ := σ) h _ t.b.lo [] (by omega) rfl (by simp; omega)) (by simp) (by simp) ?_
  rintro x e σ' ⟨r, hr, rfl, rfl, g3⟩
  have hr' : r = prs t := by rw [hr, bRows_all]; rfl
  subst hr'
  simp [-List.length_flatMap, -List.map_take, e_ref04_Conflicts_r0, e_ref04_Conflicts_r1, e_ref04_Conflicts_r2, e_ref04_Conflicts_r3, e_ref04_Conflicts_r4, e_ref04_Conflicts_r5, e_ref04_Conflicts_r6, e_ref04_Conflicts_r7, e_ref04_Conflicts_r9, e_ref04_Conflicts_r11, g3]
theorem z1 {l : List (Int × Int)} : frz 0 16 (.sl 1 0 1 0 l.length 2) [[.cells 1 (l.flatMap prE)], []] = (.lst l.length (l.flatMap prE), [[.dead], []]) := k_frz (f := prE) (w := 2) (fun _ => rfl) (fun x => by simp) (σ := [[]]) (by simp) rfl
theorem z2' {l : List (Int × Int)} : frz 0 16 (.sl 1 1 1 0 l.length 2) [[.dead, .cells 1 (l.flatMap prE)], []] = (.lst l.length (l.flatMap prE), [[.dead, .dead], []]) := k_frz (f := prE) (w := 2) (fun _ => rfl) (fun x => by simp) (bs := [.dead, .cells 1 (l.flatMap prE)]) (σ := [[]]) (by simp) rfl
theorem z3 {l : List (Int × Int)} {n : Nat} : frz 0 16 (.sl 1 0 n 0 l.length 2) [[.cells n (l.flatMap prE)], []] = (.lst l.length (l.flatMap prE), [[.dead], []]) := k_frz (f := prE) (w := 2) (fun _ => rfl) (fun x => by simp) (σ := [[]]) (by simp) rfl
theorem law_Proves {t : Test} {l : List (Int × Int)} {own : Bool} {k : Int} {p : Int × Int} : lim T (.call false i_law04_TrialProves [.agg [.int .i64 t.a.lo, .int .i64 t.a.hi, .int .i64 t.b.lo, .int .i64 t.b.hi, .int .i64 t.c.lo, .int .i64 t.c.hi, .lst t.st.length (t.st.flatMap Step.enc)], .lst l.length (l.flatMap prE), .bool own, .int .i64 k, .agg (prE p)] [[]]) = some (.val (.bool true) [[]]) := by
  refine call_of T_law04_TrialProves e_law04_TrialProves rfl ?_
  by_cases hl : t.st.length ≤ 20
  rotate_left
  · have h1 : (20 : Int) < t.st.length := by omega
    simp [-List.length_flatMap, -List.map_take, e_law04_TrialProves_r0, e_law04_TrialProves_r1, e_law04_TrialProves_r2, e_law04_TrialProves_r3, e_law04_TrialProves_r4, e_law04_TrialProves_r5, e_law04_TrialProves_r6, e_law04_TrialProves_r7, e_law04_TrialProves_r8, e_law04_TrialProves_r9, e_law04_TrialProves_r10, h1, C_wakes]
  have h1 : ¬ (20 : Int) < t.st.length := by omega
  by_cases hl2 : l.length ≤ 1700
  rotate_left
  · have h2 : (1700 : Int) < l.length := by omega
    simp [-List.length_flatMap, -List.map_take, e_law04_TrialProves_r0, e_law04_TrialProves_r1, e_law04_TrialProves_r2, e_law04_TrialProves_r3, e_law04_TrialProves_r4, e_law04_TrialProves_r5, e_law04_TrialProves_r6, e_law04_TrialProves_r7, e_law04_TrialProves_r8, e_law04_TrialProves_r9, e_law04_TrialProves_r10, h1, h2, C_wakes]
  have h2 : ¬ (1700 : Int) < l.length := by omega
  have hT := fun σ (hσ : σ ≠ []) => @C_Test σ t (by omega) hσ
  have hF := fun σ => @C_Fault σ t (by omega)
  have hP := fun σ (l : List (Int × Int)) (hl : l.length ≤ 100000) (hσ : σ ≠ []) => @C_prove σ t (by omega) l hl hσ
  have h5 : ∀ l : List (Int × Int), (l.flatMap prE).length = l.length * 2 := fun l => flat_len (f := prE) (w := 2) (fun _ => rfl) l
  have h7 : l.length * 16 ≤ room := by unfold room; omega
  by_cases h0 : fault t = 0
  rotate_left
  · have hP := fun σ hσ => hP σ l (by omega) hσ
    cases own <;> simp [-List.length_flatMap, -List.map_take, e_law04_TrialProves_r0, e_law04_TrialProves_r1, e_law04_TrialProves_r2, e_law04_TrialProves_r3, e_law04_TrialProves_r4, e_law04_TrialProves_r5, e_law04_TrialProves_r6, e_law04_TrialProves_r7, e_law04_TrialProves_r8, e_law04_TrialProves_r9, e_law04_TrialProves_r10, h1, h2, hT, hF, hP, h0, h5, h7, z1, C_wakesD]
  have h := fault_tv h0
  have hS := fun σ (l : List (Int × Int)) (hl : l.length ≤ 100000) => @C_Shows σ t h l hl
  cases own
  · have hP := fun σ hσ => hP σ l (by omega) hσ
    have hS := fun σ => hS σ l (by omega)
    simp [-List.length_flatMap, -List.map_take, e_law04_TrialProves_r0, e_law04_TrialProves_r1, e_law04_TrialProves_r2, e_law04_TrialProves_r3, e_law04_TrialProves_r4, e_law04_TrialProves_r5, e_law04_TrialProves_r6, e_law04_TrialProves_r7, e_law04_TrialProves_r8, e_law04_TrialProves_r9, e_law04_TrialProves_r10, h1, h2, hT, hF, hP, h0, h5, h7, z1, hS, C_wakesD]
  have hK := @C_ConflictsK [[]] t h
  have hp : (prs t).length ≤ 1600 := by simpa [prs] using pairs_len h
  generalize prs t = pr at *
  have w1 := w64 (n := (pr.length : Int) - 1) (by omega)
  cases hi : inn k 0 (pr.length - 1)
  · by_cases hk : k = pr.length
    · subst hk
      have hP := fun σ hσ => hP σ (pr ++ [p]) (by simp; omega) hσ
      have hS := fun σ => hS σ (pr ++ [p]) (by simp; omega)
      have h7' : (pr.length + 1) * 16 ≤ room := by unfold room; omega
      have h6 := k_self (f := prE) (w := 2) (fun _ => rfl) pr
      have q3 := @z3 (pr ++ [p]) (pr.length + 1)
      have q2 := @z2' (pr ++ [p])
      have q5 := h5 (pr ++ [p])
      have q4 : pr.length * 2 + 2 = (pr.length + 1) * 2 := by omega
      simp only [List.flatMap_append, List.flatMap_cons, List.flatMap_nil, List.append_nil, List.length_append, List.length_cons, List.length_nil, prE, Nat.zero_add] at hP hS q3 q2 q5
      simp [-List.length_flatMap, -List.map_take, e_law04_TrialProves_r0, e_law04_TrialProves_r1, e_law04_TrialProves_r2, e_law04_TrialProves_r3, e_law04_TrialProves_r4, e_law04_TrialProves_r5, e_law04_TrialProves_r6, e_law04_TrialProves_r7, e_law04_TrialProves_r8, e_law04_TrialProves_r9, e_law04_TrialProves_r10, h1, h2, hT, hF, hP, h0, h5, h7', h6, hK, w1, C_In, hi, q3, q2, q4, hS, C_wakesDD]
    · have hP := fun σ hσ => hP σ pr (by omega) hσ
      have hS := fun σ => hS σ pr (by omega)
      have h7' : pr.length * 16 ≤ room := by unfold room; omega
      simp [-List.length_flatMap, -List.map_take, e_law04_TrialProves_r0, e_law04_TrialProves_r1, e_law04_TrialProves_r2, e_law04_TrialProves_r3, e_law04_TrialProves_r4, e_law04_TrialProves_r5, e_law04_TrialProves_r6, e_law04_TrialProves_r7, e_law04_TrialProves_r8, e_law04_TrialProves_r9, e_law04_TrialProves_r10, h1, h2, hT, hF, hP, h0, h5, h7', hK, w1, C_In, hi, hk, z3, z2', hS, C_wakesDD]
  · obtain ⟨i, rfl⟩ : ∃ i : Nat, k = i := ⟨k.toNat, by have := inn_iff.1 hi; omega⟩
    have hb := inn_iff.1 hi
    have hil : i < pr.length := by omega
    have hk : (i : Int) ≠ pr.length := by omega
    have hP := fun σ hσ => hP σ (pr.set i p) (by simp; omega) hσ
    have hS := fun σ => hS σ (pr.set i p) (by simp; omega)
    have h7' : pr.length * 16 ≤ room := by unfold room; omega
    have h6 := k_set (f := prE) (w := 2) (fun _ => rfl) (x := p) hil
    have q3 := @z3 (pr.set i p) pr.length
    have q2 := @z2' (pr.set i p)
    have q5 := h5 (pr.set i p)
    have q6 : i * 2 + 2 ≤ pr.length * 2 := by omega
    simp only [List.length_set, prE, List.cons_append, List.nil_append] at hP hS q3 q2 q5 h6
    simp [-List.length_flatMap, -List.map_take, e_law04_TrialProves_r0, e_law04_TrialProves_r1, e_law04_TrialProves_r2, e_law04_TrialProves_r3, e_law04_TrialProves_r4, e_law04_TrialProves_r5, e_law04_TrialProves_r6, e_law04_TrialProves_r7, e_law04_TrialProves_r8, e_law04_TrialProves_r9, e_law04_TrialProves_r10, h1, h2, hT, hF, hP, h0, h5, h7', hK, w1, C_In, hi, hil, hk, q6, h6, q3, q2, q5, hS, C_wakesDD]
abbrev tyPr : Ty := .arr 2 (.int .i64)
theorem pr_of {ds : List D} (h : tyPr.has ds) : ∃ p : Int × Int, ds = prE p ∧ True := by
  obtain ⟨xs, rfl, hl, hx⟩ := h
  match xs, hl with
  | [a, b], _ =>
    obtain ⟨_, n, rfl, _⟩ := hx a (by simp)
    obtain ⟨_, m, rfl, _⟩ := hx b (by simp)
    exact ⟨(n, m), rfl, trivial⟩
theorem go_TrialProves (x0 x1 x2 x3 x4 : D) (t0 : tyTest.hasV x0) (t1 : (Ty.slice 2 tyPr).hasV x1) (t2 : Ty.bool.hasV x2) (t3 : (Ty.int .i64).hasV x3) (t4 : tyPr.hasV x4) :
    ∃ σ', lim T (.call false i_law04_TrialProves [x0, x1, x2, x3, x4] [[]]) = some (.val (.bool true) σ') := by
  obtain ⟨t, rfl⟩ := test_of t0
  obtain ⟨l, rfl, _⟩ := rows_of (f := prE) (Q := fun _ => True) (fun ds h => pr_of h) t1
  obtain ⟨own, t2⟩ := t2
  cases t2
  obtain ⟨k, rfl, _⟩ := i64_of t3
  obtain ⟨ds, rfl, h⟩ := t4
  obtain ⟨p, rfl, _⟩ := pr_of h
  exact ⟨_, law_Proves⟩
end Go.Proofs.Ytcjjdaifpboaaaa
