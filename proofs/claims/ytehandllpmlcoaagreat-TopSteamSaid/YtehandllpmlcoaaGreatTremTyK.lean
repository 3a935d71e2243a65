/-
  Arguments: what can be read as data of their types is a number, a row of elements.
-/
import Derived.Test.YtehandllpmlcoaaGreatBase3
set_option linter.unusedVariables false
set_option linter.unusedSimpArgs false
namespace Go.Abs
open Go

theorem rows_of {α : Type} {T : Ty} {w : Nat} {f : α → List D} {Q : α → Prop} (h : ∀ ds, T.has ds → ∃ a, ds = f a ∧ Q a) {d : D} (hd : (Ty.slice w T).has [d]) :
    ∃ l : List α, d = .lst l.length (l.flatMap f) ∧ l.length ≤ maxLen ∧ ∀ a ∈ l, Q a := by
  simp only [Ty.has, List.cons.injEq, and_true] at hd
  obtain ⟨xs, rfl, hl, hx⟩ := hd
  have key : ∀ xs : List (List D), (∀ x ∈ xs, x.length = w ∧ T.has x) → ∃ l : List α, xs.flatten = l.flatMap f ∧ l.length = xs.length ∧ ∀ a ∈ l, Q a := by
    intro xs
    induction xs with
    | nil => intro _; exact ⟨[], rfl, rfl, by simp⟩
    | cons x xs ih =>
      intro hx
      obtain ⟨l, h1, h2, h3⟩ := ih fun y hy => hx y (by simp [hy])
      obtain ⟨a, rfl, ha⟩ := h x (hx x (by simp)).2
      exact ⟨a :: l, by simp [h1], by simp [h2], fun b hb => by
        rcases List.mem_cons.1 hb with rfl | hb
        · exact ha
        · exact h3 b hb⟩
  obtain ⟨l, h1, h2, h3⟩ := key xs hx
  exact ⟨l, by rw [h1, h2], by omega, h3⟩

theorem wf_i64 {n : Int} (h : (Lit.int .i64 n).wf = true) : -9223372036854775808 ≤ n ∧ n ≤ 9223372036854775807 := by
  simp only [Lit.wf, Bool.and_eq_true, decide_eq_true_eq] at h
  exact h
theorem wf_u8 {n : Int} (h : (Lit.int .u8 n).wf = true) : 0 ≤ n ∧ n ≤ 255 := by
  simp only [Lit.wf, Bool.and_eq_true, decide_eq_true_eq] at h
  exact h
theorem wf_u16 {n : Int} (h : (Lit.int .u16 n).wf = true) : 0 ≤ n ∧ n ≤ 65535 := by
  simp only [Lit.wf, Bool.and_eq_true, decide_eq_true_eq] at h
  exact h
theorem wf_u32 {n : Int} (h : (Lit.int .u32 n).wf = true) : 0 ≤ n ∧ n ≤ 4294967295 := by
  simp only [Lit.wf, Bool.and_eq_true, decide_eq_true_eq] at h
  exact h
theorem one_of' {T : Ty} {d : D} (h : T.hasV d) (hT : ∀ fs, T ≠ .struct fs) (hT' : ∀ n e, T ≠ .arr n e) : T.has [d] := by
  cases T <;> first | exact h | exact absurd rfl (hT _) | exact absurd rfl (hT' _ _)

theorem i64_of {d : D} (h : (Ty.int .i64).hasV d) : ∃ n : Int, d = .int .i64 n ∧ -9223372036854775808 ≤ n ∧ n ≤ 9223372036854775807 := by
  simp only [Ty.hasV, Ty.has, List.cons.injEq, and_true] at h
  obtain ⟨n, rfl, hw⟩ := h
  exact ⟨n, rfl, wf_i64 hw⟩
theorem u8_of {d : D} (h : (Ty.int .u8).hasV d) : ∃ n : Int, d = .int .u8 n ∧ 0 ≤ n ∧ n ≤ 255 := by
  simp only [Ty.hasV, Ty.has, List.cons.injEq, and_true] at h
  obtain ⟨n, rfl, hw⟩ := h
  exact ⟨n, rfl, wf_u8 hw⟩
theorem u16_of {d : D} (h : (Ty.int .u16).hasV d) : ∃ n : Int, d = .int .u16 n ∧ 0 ≤ n ∧ n ≤ 65535 := by
  simp only [Ty.hasV, Ty.has, List.cons.injEq, and_true] at h
  obtain ⟨n, rfl, hw⟩ := h
  exact ⟨n, rfl, wf_u16 hw⟩
theorem u32_of {d : D} (h : (Ty.int .u32).hasV d) : ∃ n : Int, d = .int .u32 n ∧ 0 ≤ n ∧ n ≤ 4294967295 := by
  simp only [Ty.hasV, Ty.has, List.cons.injEq, and_true] at h
  obtain ⟨n, rfl, hw⟩ := h
  exact ⟨n, rfl, wf_u32 hw⟩
theorem bool_of {d : D} (h : Ty.bool.hasV d) : ∃ b : Bool, d = .bool b := by
  simp only [Ty.hasV, Ty.has, List.cons.injEq, and_true] at h
  exact h
theorem slice_one {w : Nat} {e : Ty} {ds : List D} (h : (Ty.slice w e).has ds) : ∃ d, ds = [d] := by
  simp only [Ty.has] at h
  obtain ⟨xs, rfl, _⟩ := h
  exact ⟨_, rfl⟩
end Go.Abs
