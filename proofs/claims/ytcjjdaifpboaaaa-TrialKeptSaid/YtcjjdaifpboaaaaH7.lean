/-
  Tests handed over; the error that is asked for; what arguments of the laws are.
-/
import Derived.Test.YtcjjdaifpboaaaaH6
import Derived.Test.YtcjjdaifpboaaaaW
import Derived.Test.YtcjjdaifpboaaaaTremTyK
set_option linter.unusedVariables false
set_option linter.unusedSimpArgs false
namespace Go.Trial
open Go Go.Abs
theorem rg_of {ds : List D} (h : (Ty.struct [.int .i64, .int .i64]).has ds) : ∃ p : Rg, ds = p.enc ∧ (-9223372036854775808 ≤ p.lo ∧ p.lo ≤ 9223372036854775807) ∧ (-9223372036854775808 ≤ p.hi ∧ p.hi ≤ 9223372036854775807) := by
  simp only [Ty.has, Ty.hasF] at h
  obtain ⟨_, _, rfl, ⟨x, rfl, hx⟩, _, _, rfl, ⟨y, rfl, hy⟩, rfl⟩ := h
  exact ⟨⟨x, y⟩, rfl, wf_i64 hx, wf_i64 hy⟩
theorem step_of {ds : List D} (h : (Ty.struct [.int .i64, .struct [.int .i64, .int .i64]]).has ds) : ∃ s : Step, ds = s.enc ∧ True := by
  obtain ⟨_, _, rfl, ⟨x, rfl, hx⟩, _, _, rfl, h1, rfl⟩ := h
  obtain ⟨p, rfl, _⟩ := rg_of h1
  exact ⟨⟨x, p⟩, rfl, trivial⟩
end Go.Trial
namespace Go.Proofs.Ytcjjdaifpboaaaa
open Go Go.Abs Go.Trial
variable {σ : Stack}

theorem many_zero {t : Test} (h : Tv t) : manyOf (sets t) = 0 ↔ sets t = [] := by
  have hb := many_bound (xs := sets t) fun y hy => (sets_ok h hy).2.2.2
  constructor
  · intro h0
    rw [h0] at hb
    exact List.eq_nil_of_length_eq_zero (by omega)
  · intro h0; rw [h0]; rfl
/-- The error that is asked for. -/
def askedOf (t : Test) (due : Bool) (e : Int) : Int := if fault t = 0 then (if due then e else if (sets t).isEmpty then 7 else 0) else fault t
theorem C_asked {t : Test} (hl : t.st.length ≤ 100000) {due : Bool} {e : Int} : lim T (.call false i_law04_asked [.agg [.int .i64 t.a.lo, .int .i64 t.a.hi, .int .i64 t.b.lo, .int .i64 t.b.hi, .int .i64 t.c.lo, .int .i64 t.c.hi, .lst t.st.length (t.st.flatMap Step.enc)], .bool due, .int .i64 e] σ) = some (.val (.int .i64 (askedOf t due e)) σ) := by
  refine call_of T_law04_asked e_law04_asked rfl ?_
  have hf := fun σ => @C_Fault σ t hl
  by_cases h0 : fault t = 0
  rotate_left
  · simp [-List.length_flatMap, -List.map_take, e_law04_asked_r0, e_law04_asked_r1, e_law04_asked_r2, e_law04_asked_r3, e_law04_asked_r4, e_law04_asked_r5, e_law04_asked_r6, e_law04_asked_r7, e_law04_asked_r8, e_law04_asked_r9, hf, h0, askedOf]
  have h := fault_tv h0
  cases due
  · have hC := fun σ => @C_Curves σ t h
    simp only [CurvesD] at hC
    cases hs : (sets t).isEmpty
    · have h2 : manyOf (sets t) ≠ 0 := fun h3 => by rw [(many_zero h).1 h3] at hs; cases hs
      simp [-List.length_flatMap, -List.map_take, e_law04_asked_r0, e_law04_asked_r1, e_law04_asked_r2, e_law04_asked_r3, e_law04_asked_r4, e_law04_asked_r5, e_law04_asked_r6, e_law04_asked_r7, e_law04_asked_r8, e_law04_asked_r9, hf, h0, askedOf, hC, h2, hs]
    · have h2 : manyOf (sets t) = 0 := (many_zero h).2 (by simpa using hs)
      simp [-List.length_flatMap, -List.map_take, e_law04_asked_r0, e_law04_asked_r1, e_law04_asked_r2, e_law04_asked_r3, e_law04_asked_r4, e_law04_asked_r5, e_law04_asked_r6, e_law04_asked_r7, e_law04_asked_r8, e_law04_asked_r9, hf, h0, askedOf, hC, h2, hs]
  · simp [-List.length_flatMap, -List.map_take, e_law04_asked_r0, e_law04_asked_r1, e_law04_asked_r2, e_law04_asked_r3, e_law04_asked_r4, e_law04_asked_r5, e_law04_asked_r6, e_law04_asked_r7, e_law04_asked_r8, e_law04_asked_r9, hf, h0, askedOf]

theorem L_Test {t : Test} (hl : t.st.length ≤ 100000) : ∀ (m i : Nat), i + m = t.st.length →
    WL T [1, 2, 3, 4] false f_law04_Test_l6 [(1, .cref t.enc), (2, .own 0 [.int .i64 0, .int .i64 0, .int .i64 0, .int .i64 0, .int .i64 0, .int .i64 0, .nils]), (3, .own 0 [.int .i64 t.a.lo, .int .i64 t.a.hi, .int .i64 t.b.lo, .int .i64 t.b.hi, .int .i64 t.c.lo, .int .i64 t.c.hi, .sl σ.length 0 i 0 i 3]), (4, .int .i64 i)]
      ([.cells i ((t.st.take i).flatMap Step.enc)] :: σ)
      (fun x e σ' => x = .exit 0 ∧ get e 2 = .own 0 [.int .i64 0, .int .i64 0, .int .i64 0, .int .i64 0, .int .i64 0, .int .i64 0, .nils] ∧ get e 3 = .own 0 [.int .i64 t.a.lo, .int .i64 t.a.hi, .int .i64 t.b.lo, .int .i64 t.b.hi, .int .i64 t.c.lo, .int .i64 t.c.hi, .sl σ.length 0 t.st.length 0 t.st.length 3] ∧ σ' = [.cells t.st.length (t.st.flatMap Step.enc)] :: σ)
  | 0, i, hi => by
    refine WL_step e_law04_Test_l6 ?_
    have h1 : ¬ i < t.st.length := by omega
    have h2 : i = t.st.length := by omega
    subst h2
    simp [-List.length_flatMap, -List.map_take, e_law04_Test_r0, e_law04_Test_r1, e_law04_Test_r2, e_law04_Test_r3, e_law04_Test_r4, e_law04_Test_r5, e_law04_Test_r7]
  | m + 1, i, hi => by
    refine WL_step e_law04_Test_l6 ?_
    have h1 : i < t.st.length := by omega
    obtain ⟨x, hx⟩ : ∃ x, t.st[i]? = some x := ⟨_, List.getElem?_eq_getElem h1⟩
    have h2 := flat_at (f := Step.enc) (w := 3) (fun _ => rfl) hx
    have h3 := flat_take (f := Step.enc) (w := 3) (fun _ => rfl) (Nat.le_of_lt h1)
    have h4 := flat_snoc (f := Step.enc) hx
    have h5 := flat_len (f := Step.enc) (w := 3) (fun _ => rfl) (t.st.take i)
    have h6 := wnext h1 (by omega)
    have h7 : (i + 1) * 24 ≤ room := by unfold room; omega
    have h8 : min i t.st.length = i := by omega
    have ih := L_Test hl m (i + 1) (by omega)
    simp [-List.length_flatMap, -List.map_take, e_law04_Test_r0, e_law04_Test_r1, e_law04_Test_r2, e_law04_Test_r3, e_law04_Test_r4, e_law04_Test_r5, e_law04_Test_r7, h1, h2, h3, h5, h6, h7, h8, C_Range]
    refine WL.to ih (by simp) (by simp [← h4]) fun x e σ hh => hh
theorem C_Test {t : Test} (hl : t.st.length ≤ 100000) (hσ : σ ≠ []) : lim T (.call false i_law04_Test [.agg [.int .i64 t.a.lo, .int .i64 t.a.hi, .int .i64 t.b.lo, .int .i64 t.b.hi, .int .i64 t.c.lo, .int .i64 t.c.hi, .lst t.st.length (t.st.flatMap Step.enc)]] σ) = some (.val (.agg [.int .i64 t.a.lo, .int .i64 t.a.hi, .int .i64 t.b.lo, .int .i64 t.b.hi, .int .i64 t.c.lo, .int .i64 t.c.hi, .lst t.st.length (t.st.flatMap Step.enc)]) σ) := by
  refine call_of T_law04_Test e_law04_Test rfl ?_
  simp [-List.length_flatMap, -List.map_take, e_law04_Test_r0, e_law04_Test_r1, e_law04_Test_r2, e_law04_Test_r3, e_law04_Test_r4, e_law04_Test_r5, e_law04_Test_r7, C_Range]
  refine WL.to (L_Test (σ := σ) hl t.st.length 0 (by omega)) (by simp) (by simp) ?_
  rintro x e σ' ⟨rfl, h1, h2, rfl⟩
  simp [-List.length_flatMap, -List.map_take, h1, h2, e_law04_Test_r7]
  rw [frz_agg (by simp) (by omega)]
  have h4 := k_out (f := Step.enc) (w := 3) (fun _ => rfl) (fun x => by simp) (l := t.st) (j := 0) (v := t.st.length) (bs := [.cells t.st.length (t.st.flatMap Step.enc)]) hσ rfl
  have h3 : ¬ σ.length ≤ σ.length - 1 := by have := List.length_pos_iff.2 hσ; omega
  have h6 := k_self (f := Step.enc) (w := 3) (fun _ => rfl) t.st
  have h5 : D.cleanL (t.st.flatMap Step.enc) = true := k_clean (fun x => by simp) _
  simp only [frzL_cons, frzL_nil]
  rw [frz_sl h3 (cs := t.st.flatMap Step.enc) (by simp) (by omega)]
  simp [h6, h5]

abbrev tyRg : Ty := .struct [.int .i64, .int .i64]
abbrev tyStep : Ty := .struct [.int .i64, tyRg]
abbrev tyTest : Ty := .struct [tyRg, tyRg, tyRg, .slice 3 tyStep]
theorem test_of {d : D} (h : tyTest.hasV d) : ∃ t : Test, d = .agg t.enc := by
  obtain ⟨ds, rfl, h⟩ := h
  obtain ⟨a, _, rfl, ha, b, _, rfl, hb, c, _, rfl, hc, s, _, rfl, hs, rfl⟩ := h
  obtain ⟨d, rfl⟩ := slice_one hs
  obtain ⟨l, rfl, hl, _⟩ := rows_of (fun ds h => step_of h) hs
  obtain ⟨p, rfl, _⟩ := rg_of ha
  obtain ⟨q, rfl, _⟩ := rg_of hb
  obtain ⟨r, rfl, _⟩ := rg_of hc
  exact ⟨⟨p, q, r, l⟩, rfl⟩
end Go.Proofs.Ytcjjdaifpboaaaa
