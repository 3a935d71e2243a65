/-
  Functions over lists that take a function: IndexFunc, ContainsFunc, and 'all' of a package, for elements of any type.
-/
import Derived.Test.YticpenoicajakaaAbsLib
set_option linter.unusedVariables false
set_option linter.unusedSimpArgs false
namespace Go.Abs
open Go

variable {T : Tbl}

/-- Where a list first has an element with a property; -1: nowhere. -/
def idxOf {α : Type} (p : α → Bool) : List α → Int
  | [] => -1
  | x :: l => if p x then 0 else if idxOf p l < 0 then -1 else idxOf p l + 1

theorem idxOf_neg {α : Type} {p : α → Bool} : ∀ {l : List α}, idxOf p l < 0 ↔ l.any p = false
  | [] => by simp [idxOf]
  | x :: l => by
    have ih := idxOf_neg (p := p) (l := l)
    simp only [idxOf, List.any_cons]
    cases h : p x
    · simp only [Bool.false_eq_true, if_false, Bool.false_or]
      by_cases h1 : idxOf p l < 0
      · rw [if_pos h1, ih.1 h1]; decide
      · rw [if_neg h1]
        have h2 : ¬ l.any p = false := fun h => h1 (ih.2 h)
        exact ⟨fun h3 => absurd h3 (by omega), fun h3 => absurd h3 h2⟩
    · simp

/-- 'All' and 'any', as rewriting does not take apart. -/
def allB {α : Type} (l : List α) (p : α → Bool) : Bool := l.all p
def anyB {α : Type} (l : List α) (p : α → Bool) : Bool := l.any p
theorem allB_iff {α : Type} {l : List α} {p : α → Bool} : allB l p = true ↔ ∀ x ∈ l, p x = true := by simp [allB]
theorem anyB_iff {α : Type} {l : List α} {p : α → Bool} : anyB l p = true ↔ ∃ x ∈ l, p x = true := by simp [anyB]

/-- A function value that answers a bool, whatever the store. -/
def Tests (T : Tbl) {α : Type} (fv : D) (val : α → D) (p : α → Bool) (l : List α) : Prop :=
  fv.strip = fv ∧ fv.calm = fv ∧ ∀ x ∈ l, ∀ σ, callv (lim T) false fv [val x] σ = some (.bool (p x), σ)

theorem Tests.fn {α : Type} {f : Nat} {first cap : List D} {val : α → D} {p : α → Bool} {l : List α}
    (h : ∀ x ∈ l, ∀ σ, lim T (.call false f (first ++ [val x] ++ cap) σ) = some (.val (.bool (p x)) σ)) : Tests T (.fn f first cap) val p l :=
  ⟨rfl, rfl, fun x hx σ => by rw [callv_fn, h x hx σ]; rfl⟩

/-- Elements of one type: their cells, their values. -/
structure Elt (α : Type) where
  ag : Bool
  w : Nat
  enc : α → List D
  val : α → D
  len : ∀ x, (enc x).length = w
  load : ∀ x, ldD ag w (some (enc x)) = some (val x)
  strip : ∀ x, (val x).strip = val x
  calm : ∀ x, (val x).calm = val x
  cells : ∀ x, (val x).cells = some (enc x)

def eltInt (k : IntKind) : Elt Int := ⟨false, 1, fun n => [.int k n], fun n => .int k n, fun _ => rfl, fun _ => by simp, fun _ => rfl, fun _ => rfl, fun _ => rfl⟩
def eltBool : Elt Bool := ⟨false, 1, fun n => [.bool n], fun n => .bool n, fun _ => rfl, fun _ => by simp, fun _ => rfl, fun _ => rfl, fun _ => rfl⟩
def eltAgg {α : Type} (w : Nat) (enc : α → List D) (h : ∀ x, (enc x).length = w) : Elt α :=
  ⟨true, w, enc, fun x => .agg (enc x), h, fun x => by simp [h, List.take_of_length_le], fun _ => rfl, fun _ => rfl, fun _ => rfl⟩

section index
variable (ag : Bool) (w : Nat)
def idxL : Cmd :=
  (.seq (.reg [0, 1, 7, 8, 9] [⟨some 9, none, false, .bin .lss (.t 8) (.t 7)⟩]) (.seq (.ite (.t 9) .nop (.exit 0)) (.seq (.blk 1 (.seq (.reg [0, 1, 5, 7, 8] [
  ⟨some 10, none, false, .mv (.t 8)⟩,
  ⟨some 5, none, false, .mv (.t 10)⟩]) (.seq (.reg [0, 1, 5, 7, 8, 16] [
  ⟨some 11, none, false, .mv (.t 1)⟩,
  ⟨some 12, none, false, .mv (.t 0)⟩,
  ⟨some 13, none, false, .mv (.t 5)⟩,
  ⟨some 14, none, false, .idxS w (.t 12) (.t 13)⟩,
  ⟨some 15, none, false, .ld ag w (.t 14)⟩,
  ⟨some 16, none, false, .call false (.t 11) [(.t 15)]⟩]) (.ite (.t 16) (.seq (.reg [4] [
  ⟨some 17, none, false, .mv (.t 5)⟩,
  ⟨some 4, none, false, .mv (.t 17)⟩]) .ret) .nop)))) (.reg [0, 1, 7, 8] [
  ⟨some 18, none, false, .bin .add (.t 8) (.c (.int .i64 1))⟩,
  ⟨some 8, none, false, .mv (.t 18)⟩]))))
def idxFn : Fn := ⟨2, [.t 4],
  (.seq (.reg [0, 1] [⟨some 4, none, false, .mv (.c (.int .i64 0))⟩]) (.seq (.seq (.reg [0, 1, 7, 8] [
  ⟨some 6, none, false, .mv (.t 0)⟩,
  ⟨some 7, none, false, .lenS (.t 6)⟩,
  ⟨some 8, none, false, .mv (.c (.int .i64 0))⟩]) (.blk 0 (.loop [0, 1, 7, 8] false (idxL ag w)))) (.seq (.reg [4] [
  ⟨some 4, none, false, .mv (.c (.int .i64 (-1)))⟩]) .ret)))⟩
def containsFn (i : Nat) : Fn := ⟨2, [.t 4],
  (.seq (.reg [0, 1] [⟨some 4, none, false, .mv (.c (.bool false))⟩]) (.seq (.reg [4] [
  ⟨some 5, none, false, .mv (.t 0)⟩,
  ⟨some 6, none, false, .mv (.t 1)⟩,
  ⟨some 7, none, false, .call false (.c (.fn i [] [])) [(.t 5), (.t 6)]⟩,
  ⟨some 8, none, false, .bin .geq (.t 7) (.c (.int .i64 0))⟩,
  ⟨some 4, none, false, .mv (.t 8)⟩]) .ret))⟩
def allFn (g h : Nat) : Fn := ⟨2, [.t 4],
  (.seq (.reg [0, 3] [
  ⟨some 3, none, false, .boxi (.t 1)⟩,
  ⟨some 4, none, false, .mv (.c (.bool false))⟩]) (.seq (.reg [4] [
  ⟨some 5, none, false, .mv (.t 0)⟩,
  ⟨some 6, none, false, .mkf g [] [(.t 3)]⟩,
  ⟨some 7, none, false, .call false (.c (.fn h [] [])) [(.t 5), (.t 6)]⟩,
  ⟨some 8, none, false, .un .not (.t 7)⟩,
  ⟨some 4, none, false, .mv (.t 8)⟩]) .ret))⟩
def all1Fn : Bool → Nat → Fn
  | true, w => ⟨2, [.t 3],
  (.seq (.reg [1, 2] [
  ⟨some 2, none, false, .boxi (.t 0)⟩,
  ⟨some 3, none, false, .mv (.c (.bool false))⟩]) (.seq (.reg [3] [
  ⟨some 4, none, false, .ld false 1 (.t 1)⟩,
  ⟨some 5, none, false, .ld true w (.t 2)⟩,
  ⟨some 6, none, false, .call false (.t 4) [(.t 5)]⟩,
  ⟨some 7, none, false, .un .not (.t 6)⟩,
  ⟨some 3, none, false, .mv (.t 7)⟩]) .ret))⟩
  | false, _ => ⟨2, [.t 3],
  (.seq (.reg [0, 1] [
  ⟨some 3, none, false, .mv (.c (.bool false))⟩]) (.seq (.reg [3] [
  ⟨some 4, none, false, .ld false 1 (.t 1)⟩,
  ⟨some 5, none, false, .mv (.t 0)⟩,
  ⟨some 6, none, false, .call false (.t 4) [(.t 5)]⟩,
  ⟨some 7, none, false, .un .not (.t 6)⟩,
  ⟨some 3, none, false, .mv (.t 7)⟩]) .ret))⟩
end index

section
variable {α : Type} (E : Elt α) {p : α → Bool} {fv : D} {l : List α}

theorem idx_loop (hl : l.length ≤ 9223372036854775807) (ht : Tests T fv E.val p l) {σ : Stack} : ∀ (m i : Nat), i + m = l.length →
    WL T [0, 1, 7, 8] false (idxL E.ag E.w) [(0, .lst l.length (l.flatMap E.enc)), (1, fv), (7, .int .i64 l.length), (8, .int .i64 i)] σ
      (fun x e σ' => σ' = σ ∧ if idxOf p (l.drop i) < 0 then x = .exit 0 else x = .ret ∧ get e 4 = .int .i64 (i + idxOf p (l.drop i)))
  | 0, i, hi => by
    obtain ⟨h1, h2, h3⟩ := ht
    refine WL_step (idxL.eq_1 _ _) ?_
    have : ¬ i < l.length := by omega
    have h5 : l.drop i = [] := by simp; omega
    simp [this, h1, h2, h5, idxOf]
  | m + 1, i, hi => by
    have ih := idx_loop hl ht (σ := σ) m (i + 1) (by omega)
    obtain ⟨h1, h2, h3⟩ := ht
    refine WL_step (idxL.eq_1 _ _) ?_
    have h4 : i < l.length := by omega
    obtain ⟨x, hx⟩ : ∃ x, l[i]? = some x := ⟨_, List.getElem?_eq_getElem h4⟩
    have h5 := flat_at (f := E.enc) E.len hx
    have h6 := h3 x (List.mem_of_getElem? hx) σ
    have h7 := wnext h4 hl
    have h8 : l.drop i = x :: l.drop (i + 1) := by
      rw [List.drop_eq_getElem_cons h4]
      rw [List.getElem?_eq_getElem h4] at hx
      simp at hx
      rw [hx]
    cases hp : p x
    · rw [hp] at h6
      simp [h4, h1, h2, h5, h6, h7, E.load, E.strip, E.calm]
      refine WL.mono (by simpa using ih) ?_
      rintro x e σ' ⟨h9, h10⟩
      refine ⟨h9, ?_⟩
      rw [h8]
      simp only [idxOf, hp, Bool.false_eq_true, if_false]
      by_cases h11 : idxOf p (l.drop (i + 1)) < 0
      · simpa [h11] using h10
      · rw [if_neg h11] at h10
        rw [if_neg h11, if_neg (by omega)]
        refine ⟨h10.1, ?_⟩
        rw [h10.2]
        congr 1
        push_cast
        omega
    · rw [hp] at h6
      simp [h4, h1, h2, h5, h6, h7, E.load, E.strip, E.calm, h8, idxOf, hp]

theorem index_of {f : Nat} (hT : T f = some (idxFn E.ag E.w)) (hl : l.length ≤ 9223372036854775807) (ht : Tests T fv E.val p l) {σ : Stack} :
    lim T (.call false f [.lst l.length (l.flatMap E.enc), fv] σ) = some (.val (.int .i64 (idxOf p l)) σ) := by
  refine call_of hT (idxFn.eq_1 _ _) rfl ?_
  have h := idx_loop E hl ht (σ := [] :: σ) l.length 0 (by simp)
  obtain ⟨h1, h2, h3⟩ := ht
  simp [h1, h2]
  refine WL.mono (by simpa using h) ?_
  rintro x e σ' ⟨rfl, h10⟩
  try simp only [List.drop_zero] at h10
  by_cases h11 : idxOf p l < 0
  · rw [if_pos h11] at h10
    subst h10
    have : idxOf p l = -1 := by
      cases l with
      | nil => rfl
      | cons a l =>
        simp only [idxOf] at h11 ⊢
        split at h11 <;> rename_i ha
        · omega
        · rw [if_neg ha]
          split at h11 <;> rename_i hb
          · rw [if_pos hb]
          · omega
    simp [this]
  · rw [if_neg h11] at h10
    obtain ⟨rfl, h12⟩ := h10
    try simp at h12
    simp [h12]

theorem contains_of {f i : Nat} (hT : T f = some (containsFn i)) (hi : T i = some (idxFn E.ag E.w)) (hl : l.length ≤ 9223372036854775807) (ht : Tests T fv E.val p l) {σ : Stack} :
    lim T (.call false f [.lst l.length (l.flatMap E.enc), fv] σ) = some (.val (.bool (anyB l p)) σ) := by
  refine call_of hT (containsFn.eq_1 _) rfl ?_
  have h := index_of E hi hl ht (σ := [] :: σ)
  obtain ⟨h1, h2, h3⟩ := ht
  have h4 : decide (0 ≤ idxOf p l) = anyB l p := by
    unfold anyB
    have h6 := idxOf_neg (p := p) (l := l)
    cases h5 : l.any p
    · have := h6.2 h5
      exact decide_eq_false (by omega)
    · exact decide_eq_true (by
        have : ¬ idxOf p l < 0 := fun h => by rw [h6.1 h] at h5; cases h5
        omega)
  simp [h1, h2, h, h4]

theorem all1_of {g : Nat} (hT : T g = some (all1Fn E.ag E.w)) (ht : Tests T fv E.val p l) : Tests T (.fn g [] [.cref [fv]]) E.val (fun x => !p x) l := by
  refine Tests.fn fun x hx σ => ?_
  obtain ⟨h1, h2, h3⟩ := ht
  have h6 := h3 x hx ([] :: σ)
  have hc := E.cells x
  have hl := E.load x
  have hs := E.strip x
  have hcm := E.calm x
  generalize E.ag = ag at *
  cases ag with
  | true =>
    refine call_of hT (all1Fn.eq_1 _) rfl ?_
    simp [h1, h2, h6, hc, hl, hs, hcm]
  | false =>
    refine call_of hT (all1Fn.eq_2 _) rfl ?_
    simp [h1, h2, h6, hc, hl, hs, hcm]

theorem all_of {f g h i : Nat} (hf : T f = some (allFn g h)) (hg : T g = some (all1Fn E.ag E.w)) (hh : T h = some (containsFn i)) (hi : T i = some (idxFn E.ag E.w))
    (hl : l.length ≤ 9223372036854775807) (ht : Tests T fv E.val p l) (hcl : fv.cells = some [fv]) {σ : Stack} :
    lim T (.call false f [.lst l.length (l.flatMap E.enc), fv] σ) = some (.val (.bool (allB l p)) σ) := by
  refine call_of hf (allFn.eq_1 _ _) rfl ?_
  have h := contains_of E hh hi hl (all1_of E hg ht) (σ := [] :: σ)
  obtain ⟨h1, h2, h3⟩ := ht
  have h4 : (anyB l fun x => !p x) = !allB l p := by
    unfold anyB allB
    rw [List.all_eq_not_any_not, Bool.not_not]
  simp [h1, h2, h, h4, hcl]
end

end Go.Abs
