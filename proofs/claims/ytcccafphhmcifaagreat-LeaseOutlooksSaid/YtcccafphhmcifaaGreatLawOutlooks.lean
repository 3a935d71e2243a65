/-
  The law LeaseOutlooks answers true.
-/
import Derived.Test.YtcccafphhmcifaaGreatE8
import Derived.Test.YtcccafphhmcifaaGreatW
set_option linter.unusedVariables false
set_option linter.unusedSimpArgs false
namespace Go.Proofs.YtcccafphhmcifaaGreat
open Go Go.Abs Go.Lease
variable {σ : Stack}

theorem law_Outlooks {p : Pg} {ks : List Int} : lim T (.call false i_law11_LeaseOutlooks [.agg [.int .i64 p.start, .int .i64 p.gain, .int .i64 p.keep, .int .i64 p.most, .lst p.l.length (p.l.flatMap Yr.enc)], .lst ks.length (ks.flatMap intE)] [[]]) = some (.val (.bool true) [[]]) := by
  refine call_of T_law11_LeaseOutlooks e_law11_LeaseOutlooks rfl ?_
  by_cases hl : p.l.length ≤ 12
  rotate_left
  · have h1 : (12 : Int) < p.l.length := by omega
    simp [-List.length_flatMap, -List.map_take, e_law11_LeaseOutlooks_r0, e_law11_LeaseOutlooks_r1, e_law11_LeaseOutlooks_r2, e_law11_LeaseOutlooks_r3, e_law11_LeaseOutlooks_r4, e_law11_LeaseOutlooks_r5, e_law11_LeaseOutlooks_r6, e_law11_LeaseOutlooks_r7, e_law11_LeaseOutlooks_r8, e_law11_LeaseOutlooks_r9, e_law11_LeaseOutlooks_r10, e_law11_LeaseOutlooks_r11, e_law11_LeaseOutlooks_r12, e_law11_LeaseOutlooks_r13, e_law11_LeaseOutlooks_r14, e_law11_LeaseOutlooks_r15, e_law11_LeaseOutlooks_r16, e_law11_LeaseOutlooks_r17, e_law11_LeaseOutlooks_r18, e_law11_LeaseOutlooks_r19, e_law11_LeaseOutlooks_r20, h1, C_wakes]
  have h1 : ¬ (12 : Int) < p.l.length := by omega
  by_cases hk : ks.length ≤ 12
  rotate_left
  · have h2 : (12 : Int) < ks.length := by omega
    simp [-List.length_flatMap, -List.map_take, e_law11_LeaseOutlooks_r0, e_law11_LeaseOutlooks_r1, e_law11_LeaseOutlooks_r2, e_law11_LeaseOutlooks_r3, e_law11_LeaseOutlooks_r4, e_law11_LeaseOutlooks_r5, e_law11_LeaseOutlooks_r6, e_law11_LeaseOutlooks_r7, e_law11_LeaseOutlooks_r8, e_law11_LeaseOutlooks_r9, e_law11_LeaseOutlooks_r10, e_law11_LeaseOutlooks_r11, e_law11_LeaseOutlooks_r12, e_law11_LeaseOutlooks_r13, e_law11_LeaseOutlooks_r14, e_law11_LeaseOutlooks_r15, e_law11_LeaseOutlooks_r16, e_law11_LeaseOutlooks_r17, e_law11_LeaseOutlooks_r18, e_law11_LeaseOutlooks_r19, e_law11_LeaseOutlooks_r20, h1, h2, C_wakes]
  have h2 : ¬ (12 : Int) < ks.length := by omega
  have hR := fun σ => C_RPg (σ := σ) (p := p)
  have hP := fun σ (hσ : σ ≠ []) => C_Pg (σ := σ) (p := p) (by omega) hσ
  have hL := fun σ (hσ : σ ≠ []) => C_list (σ := σ) (l := ks) (by omega) hσ
  have hO := fun σ (hσ : σ ≠ []) => C_Outlook (σ := σ) (p := p) (by omega) (ks := ks) (by omega) hσ
  have hS := fun σ => C_Short (σ := σ) (p := p) (by omega)
  have hC := fun σ => C_checkP (σ := σ) (p := p) (by omega)
  have hN := fun σ => C_NumR (σ := σ) (p := p) (ks := ks) (by omega)
  unfold outD at hO
  unfold shortD at hS
  cases c1 : pgOk p
  · simp only [c1, Bool.false_eq_true, if_false] at hO hS hC
    simp [-List.length_flatMap, -List.map_take, e_law11_LeaseOutlooks_r0, e_law11_LeaseOutlooks_r1, e_law11_LeaseOutlooks_r2, e_law11_LeaseOutlooks_r3, e_law11_LeaseOutlooks_r4, e_law11_LeaseOutlooks_r5, e_law11_LeaseOutlooks_r6, e_law11_LeaseOutlooks_r7, e_law11_LeaseOutlooks_r8, e_law11_LeaseOutlooks_r9, e_law11_LeaseOutlooks_r10, e_law11_LeaseOutlooks_r11, e_law11_LeaseOutlooks_r12, e_law11_LeaseOutlooks_r13, e_law11_LeaseOutlooks_r14, e_law11_LeaseOutlooks_r15, e_law11_LeaseOutlooks_r16, e_law11_LeaseOutlooks_r17, e_law11_LeaseOutlooks_r18, e_law11_LeaseOutlooks_r19, e_law11_LeaseOutlooks_r20, h1, h2, hR, hP, hL, hO, hS, hC, c1, C_wakes]
  simp only [c1, if_true] at hO hS hC
  have hSR := fun σ => C_ShortR (σ := σ) c1
  unfold shortR at hSR
  have hI := fun σ => C_ints (σ := σ) (a := folCaps p p.l ks p.start) (b := folCaps p p.l ks p.start)
  have hlen : (folCaps p p.l ks p.start).length ≤ 9223372036854775807 := by
    have key : ∀ (ys : List Yr) (ks : List Int) (now : Int), (folCaps p ys ks now).length ≤ ys.length := by
      intro ys
      induction ys with
      | nil => intro ks now; simp [folCaps]
      | cons y ys ih =>
        intro ks now
        cases ks with
        | nil => simp [folCaps]
        | cons k ks => simp only [folCaps, List.length_cons]; have := ih ks (aft p now k); omega
    have := key p.l ks p.start
    omega
  have hI := fun σ => C_ints (σ := σ) (a := folCaps p p.l ks p.start) (b := folCaps p p.l ks p.start) hlen
  cases hs : shortL p p.l p.start with
  | none =>
    simp only [hs] at hS hSR
    cases c2 : planOk p ks
    · simp only [c2, Bool.false_eq_true, if_false] at hO
      simp [-List.length_flatMap, -List.map_take, e_law11_LeaseOutlooks_r0, e_law11_LeaseOutlooks_r1, e_law11_LeaseOutlooks_r2, e_law11_LeaseOutlooks_r3, e_law11_LeaseOutlooks_r4, e_law11_LeaseOutlooks_r5, e_law11_LeaseOutlooks_r6, e_law11_LeaseOutlooks_r7, e_law11_LeaseOutlooks_r8, e_law11_LeaseOutlooks_r9, e_law11_LeaseOutlooks_r10, e_law11_LeaseOutlooks_r11, e_law11_LeaseOutlooks_r12, e_law11_LeaseOutlooks_r13, e_law11_LeaseOutlooks_r14, e_law11_LeaseOutlooks_r15, e_law11_LeaseOutlooks_r16, e_law11_LeaseOutlooks_r17, e_law11_LeaseOutlooks_r18, e_law11_LeaseOutlooks_r19, e_law11_LeaseOutlooks_r20, h1, h2, hR, hP, hL, hO, hS, hSR, hC, hN, c1, c2, C_wakes]
    simp only [c2, if_true] at hO
    have hOR := fun σ (hσ : σ ≠ []) => C_OutR (σ := σ) c1 c2 hσ
    unfold outR at hOR
    cases c3 : folIs p p.l ks p.start
    · simp only [c3, Bool.false_eq_true, if_false] at hO hOR
      simp [-List.length_flatMap, -List.map_take, e_law11_LeaseOutlooks_r0, e_law11_LeaseOutlooks_r1, e_law11_LeaseOutlooks_r2, e_law11_LeaseOutlooks_r3, e_law11_LeaseOutlooks_r4, e_law11_LeaseOutlooks_r5, e_law11_LeaseOutlooks_r6, e_law11_LeaseOutlooks_r7, e_law11_LeaseOutlooks_r8, e_law11_LeaseOutlooks_r9, e_law11_LeaseOutlooks_r10, e_law11_LeaseOutlooks_r11, e_law11_LeaseOutlooks_r12, e_law11_LeaseOutlooks_r13, e_law11_LeaseOutlooks_r14, e_law11_LeaseOutlooks_r15, e_law11_LeaseOutlooks_r16, e_law11_LeaseOutlooks_r17, e_law11_LeaseOutlooks_r18, e_law11_LeaseOutlooks_r19, e_law11_LeaseOutlooks_r20, h1, h2, hR, hP, hL, hO, hS, hSR, hC, hN, hOR, c1, c2, C_wakes]
    · simp only [c3, if_true] at hO hOR
      simp [-List.length_flatMap, -List.map_take, e_law11_LeaseOutlooks_r0, e_law11_LeaseOutlooks_r1, e_law11_LeaseOutlooks_r2, e_law11_LeaseOutlooks_r3, e_law11_LeaseOutlooks_r4, e_law11_LeaseOutlooks_r5, e_law11_LeaseOutlooks_r6, e_law11_LeaseOutlooks_r7, e_law11_LeaseOutlooks_r8, e_law11_LeaseOutlooks_r9, e_law11_LeaseOutlooks_r10, e_law11_LeaseOutlooks_r11, e_law11_LeaseOutlooks_r12, e_law11_LeaseOutlooks_r13, e_law11_LeaseOutlooks_r14, e_law11_LeaseOutlooks_r15, e_law11_LeaseOutlooks_r16, e_law11_LeaseOutlooks_r17, e_law11_LeaseOutlooks_r18, e_law11_LeaseOutlooks_r19, e_law11_LeaseOutlooks_r20, h1, h2, hR, hP, hL, hO, hS, hSR, hC, hN, hOR, hI, c1, c2, C_wakes]
  | some j =>
    simp only [hs] at hS hSR
    have hj : ¬ (j : Int) < 0 := by omega
    cases c2 : planOk p ks
    · simp only [c2, Bool.false_eq_true, if_false] at hO
      simp [-List.length_flatMap, -List.map_take, e_law11_LeaseOutlooks_r0, e_law11_LeaseOutlooks_r1, e_law11_LeaseOutlooks_r2, e_law11_LeaseOutlooks_r3, e_law11_LeaseOutlooks_r4, e_law11_LeaseOutlooks_r5, e_law11_LeaseOutlooks_r6, e_law11_LeaseOutlooks_r7, e_law11_LeaseOutlooks_r8, e_law11_LeaseOutlooks_r9, e_law11_LeaseOutlooks_r10, e_law11_LeaseOutlooks_r11, e_law11_LeaseOutlooks_r12, e_law11_LeaseOutlooks_r13, e_law11_LeaseOutlooks_r14, e_law11_LeaseOutlooks_r15, e_law11_LeaseOutlooks_r16, e_law11_LeaseOutlooks_r17, e_law11_LeaseOutlooks_r18, e_law11_LeaseOutlooks_r19, e_law11_LeaseOutlooks_r20, h1, h2, hR, hP, hL, hO, hS, hSR, hC, hN, c1, c2, hj, C_wakes]
    simp only [c2, if_true] at hO
    have hOR := fun σ (hσ : σ ≠ []) => C_OutR (σ := σ) c1 c2 hσ
    unfold outR at hOR
    cases c3 : folIs p p.l ks p.start
    · simp only [c3, Bool.false_eq_true, if_false] at hO hOR
      simp [-List.length_flatMap, -List.map_take, e_law11_LeaseOutlooks_r0, e_law11_LeaseOutlooks_r1, e_law11_LeaseOutlooks_r2, e_law11_LeaseOutlooks_r3, e_law11_LeaseOutlooks_r4, e_law11_LeaseOutlooks_r5, e_law11_LeaseOutlooks_r6, e_law11_LeaseOutlooks_r7, e_law11_LeaseOutlooks_r8, e_law11_LeaseOutlooks_r9, e_law11_LeaseOutlooks_r10, e_law11_LeaseOutlooks_r11, e_law11_LeaseOutlooks_r12, e_law11_LeaseOutlooks_r13, e_law11_LeaseOutlooks_r14, e_law11_LeaseOutlooks_r15, e_law11_LeaseOutlooks_r16, e_law11_LeaseOutlooks_r17, e_law11_LeaseOutlooks_r18, e_law11_LeaseOutlooks_r19, e_law11_LeaseOutlooks_r20, h1, h2, hR, hP, hL, hO, hS, hSR, hC, hN, hOR, c1, c2, hj, C_wakes]
    · simp only [c3, if_true] at hO hOR
      simp [-List.length_flatMap, -List.map_take, e_law11_LeaseOutlooks_r0, e_law11_LeaseOutlooks_r1, e_law11_LeaseOutlooks_r2, e_law11_LeaseOutlooks_r3, e_law11_LeaseOutlooks_r4, e_law11_LeaseOutlooks_r5, e_law11_LeaseOutlooks_r6, e_law11_LeaseOutlooks_r7, e_law11_LeaseOutlooks_r8, e_law11_LeaseOutlooks_r9, e_law11_LeaseOutlooks_r10, e_law11_LeaseOutlooks_r11, e_law11_LeaseOutlooks_r12, e_law11_LeaseOutlooks_r13, e_law11_LeaseOutlooks_r14, e_law11_LeaseOutlooks_r15, e_law11_LeaseOutlooks_r16, e_law11_LeaseOutlooks_r17, e_law11_LeaseOutlooks_r18, e_law11_LeaseOutlooks_r19, e_law11_LeaseOutlooks_r20, h1, h2, hR, hP, hL, hO, hS, hSR, hC, hN, hOR, hI, c1, c2, hj, C_wakes]
theorem rows_i64 {ds : List D} (h : (Ty.int .i64).has ds) : ∃ x : Int, ds = intE x ∧ (-9223372036854775808 ≤ x ∧ x ≤ 9223372036854775807) := by
  obtain ⟨n, rfl, hw⟩ := h
  exact ⟨n, rfl, wf_i64 hw⟩
theorem go_LeaseOutlooks (x0 x1 : D) (t0 : (Ty.struct [.int .i64, .int .i64, .int .i64, .int .i64, .slice 2 (.struct [.int .i64, .int .i64])]).hasV x0) (t1 : (Ty.slice 1 (.int .i64)).hasV x1) :
    ∃ σ', lim T (.call false i_law11_LeaseOutlooks [x0, x1] [[]]) = some (.val (.bool true) σ') := by
  obtain ⟨p, rfl⟩ := pg_of t0
  obtain ⟨ks, rfl, _, _⟩ := rows_of (fun ds h => rows_i64 h) t1
  exact ⟨_, law_Outlooks⟩
end Go.Proofs.YtcccafphhmcifaaGreat
