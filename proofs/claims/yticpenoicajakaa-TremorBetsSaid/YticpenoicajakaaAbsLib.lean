/-
  Rows of elements, numbers that fit: what the reckoning of calls needs of lists and numbers.
-/
import Derived.Test.YticpenoicajakaaAbsRun
import Derived.IntWalk
set_option linter.unusedVariables false
set_option linter.unusedSimpArgs false
namespace Go.Abs
open Go

theorem WL.to {T : Tbl} {live : List Nat} {seg : Bool} {c : Cmd} {e e' : Env} {σ σ' : Stack} {Q Q' : Exit → Env → Stack → Prop} (h : WL T live seg c e σ Q) (he : e' = e) (hs : σ' = σ)
    (hq : ∀ x e σ, Q x e σ → Q' x e σ) : WL T live seg c e' σ' Q' := by subst he hs; exact h.mono hq

theorem flat_len {α : Type} {f : α → List D} {w : Nat} (hw : ∀ x, (f x).length = w) (l : List α) : (l.flatMap f).length = l.length * w := by
  induction l with
  | nil => simp
  | cons a l ih => simp [hw, ih, Nat.succ_mul]; omega

theorem flat_at {α : Type} {f : α → List D} {w : Nat} (hw : ∀ x, (f x).length = w) : ∀ {l : List α} {i : Nat} {x : α}, l[i]? = some x → ((l.flatMap f).drop (i * w)).take w = f x
  | [], i, x, h => by simp at h
  | a :: l, 0, x, h => by
    simp at h; subst h
    simp [← hw a]
  | a :: l, i + 1, x, h => by
    have e : (i + 1) * w = (f a).length + i * w := by rw [hw, Nat.succ_mul]; omega
    rw [List.flatMap_cons, e, List.drop_append]
    simp only [Nat.add_sub_cancel_left, List.drop_eq_nil_of_le (Nat.le_add_right _ _), List.nil_append]
    exact flat_at hw (by simpa using h)

theorem drop_at {α : Type} {l : List α} {i : Nat} {x : α} (h : l[i]? = some x) : l.drop i = x :: l.drop (i + 1) := by
  have h1 : i < l.length := (List.getElem?_eq_some_iff.1 h).1
  rw [List.drop_eq_getElem_cons h1]
  rw [List.getElem?_eq_getElem h1] at h
  simp at h
  rw [h]

theorem flat_take {α : Type} {f : α → List D} {w : Nat} (hw : ∀ x, (f x).length = w) {l : List α} {i : Nat} (hi : i ≤ l.length) : ((l.take i).flatMap f).take (i * w) = (l.take i).flatMap f := by
  apply List.take_of_length_le
  rw [flat_len hw]
  simp only [List.length_take]
  exact Nat.mul_le_mul_right _ (Nat.min_le_left _ _)

theorem flat_snoc {α : Type} {f : α → List D} {l : List α} {i : Nat} {x : α} (h : l[i]? = some x) : (l.take i).flatMap f ++ f x = (l.take (i + 1)).flatMap f := by
  rw [List.take_add_one, h]
  simp

theorem flat_one {α : Type} {f : α → D} (l : List α) : l.flatMap (fun x => [f x]) = l.map f := by
  induction l with
  | nil => rfl
  | cons a l ih => simp [ih]

theorem w64 {n : Int} (h : -9223372036854775808 ≤ n ∧ n ≤ 9223372036854775807) : IntKind.i64.wrap n = n := IntWalk.i64_in n h
@[simp] theorem wlit0 : IntKind.i64.wrap 0 = 0 := by decide
@[simp] theorem wlit1 : IntKind.i64.wrap 1 = 1 := by decide
@[simp] theorem wlit2 : IntKind.i64.wrap 2 = 2 := by decide
@[simp] theorem wlit3 : IntKind.i64.wrap 3 = 3 := by decide
@[simp] theorem wlit4 : IntKind.i64.wrap 4 = 4 := by decide
@[simp] theorem wlit5 : IntKind.i64.wrap 5 = 5 := by decide
theorem wu8 {n : Int} (h : 0 ≤ n ∧ n ≤ 255) : IntKind.u8.wrap n = n := IntWalk.u8_in n h
theorem wnext {i n : Nat} (h : i < n) (hn : n ≤ 9223372036854775807) : IntKind.i64.wrap ((i : Int) + 1) = ((i + 1 : Nat) : Int) := by
  rw [w64 (by omega)]; rfl

end Go.Abs
