/-
  'All' of a list by a function that changes the store as it goes.
-/
import Derived.Test.YtehandllpmlcoaaGreatBase3
set_option linter.unusedVariables false
set_option linter.unusedSimpArgs false
namespace Go.Abs
open Go
variable {T : Tbl}

/-- A search from i on through m elements: was one found, and how far did it come? -/
def scanQ (q : Nat → Bool) (i : Nat) : Nat → Bool × Nat
  | 0 => (false, i)
  | m + 1 => if q i then (true, i + 1) else scanQ q (i + 1) m
theorem scanQ_all {q : Nat → Bool} : ∀ {m i : Nat}, (scanQ q i m).1 = false ↔ ∀ j, j < m → q (i + j) = false
  | 0, i => by simp [scanQ]
  | m + 1, i => by
    simp only [scanQ]
    by_cases h : q i = true
    · simp only [h, if_true, Bool.true_eq_false, false_iff]
      intro hh
      have := hh 0 (by omega)
      simp [h] at this
    · have h' : q i = false := by simpa using h
      simp only [h', Bool.false_eq_true, if_false]
      rw [scanQ_all (m := m) (i := i + 1)]
      constructor
      · intro hh j hj
        cases j with
        | zero => simpa using h'
        | succ j => have := hh j (by omega); rwa [show i + 1 + j = i + (j + 1) from by omega] at this
      · intro hh j hj
        have := hh (j + 1) (by omega)
        rwa [show i + (j + 1) = i + 1 + j from by omega] at this

section
variable {α : Type} (E : Elt α) {fv : D} {l : List α} {q : Nat → Bool} {S : Nat → Stack}

theorem idx_loopS (hl : l.length ≤ 9223372036854775807) (h1 : fv.strip = fv) (h2 : fv.calm = fv) (ht : ∀ i x, l[i]? = some x → callv (lim T) false fv [E.val x] (S i) = some (.bool (q i), S (i + 1))) : ∀ (m i : Nat), i + m = l.length →
    WL T [0, 1, 7, 8] false (idxL E.ag E.w) [(0, .lst l.length (l.flatMap E.enc)), (1, fv), (7, .int .i64 l.length), (8, .int .i64 i)] (S i)
      (fun x e σ' => σ' = S (scanQ q i m).2 ∧ if (scanQ q i m).1 = true then x = .ret ∧ ∃ j : Nat, get e 4 = .int .i64 j else x = .exit 0)
  | 0, i, hi => by
    refine WL_step (idxL.eq_1 _ _) ?_
    have : ¬ i < l.length := by omega
    simp [this, h1, h2, scanQ]
  | m + 1, i, hi => by
    refine WL_step (idxL.eq_1 _ _) ?_
    have h4 : i < l.length := by omega
    obtain ⟨x, hx⟩ : ∃ x, l[i]? = some x := ⟨_, List.getElem?_eq_getElem h4⟩
    have h5 := flat_at (f := E.enc) E.len hx
    have h6 := ht i x hx
    have h7 := wnext h4 hl
    have ih := idx_loopS hl h1 h2 ht m (i + 1) (by omega)
    cases hq : q i
    · rw [hq] at h6
      simp [h4, h1, h2, h5, h6, h7, E.load, E.strip, E.calm]
      refine WL.mono (by simpa using ih) ?_
      rintro x e σ' ⟨h9, h10⟩
      simp only [scanQ, hq, Bool.false_eq_true, if_false]
      exact ⟨h9, h10⟩
    · rw [hq] at h6
      simp [h4, h1, h2, h5, h6, h7, E.load, E.strip, E.calm, scanQ, hq]
      exact ⟨i, rfl⟩

theorem index_ofS {f : Nat} (hT : T f = some (idxFn E.ag E.w)) (hl : l.length ≤ 9223372036854775807) (h1 : fv.strip = fv) (h2 : fv.calm = fv) (hlen : ∀ i, (S i).length = (S 0).length)
    (ht : ∀ i x, l[i]? = some x → callv (lim T) false fv [E.val x] ([] :: S i) = some (.bool (q i), [] :: S (i + 1))) :
    ∃ n : Int, lim T (.call false f [.lst l.length (l.flatMap E.enc), fv] (S 0)) = some (.val (.int .i64 n) (S (scanQ q 0 l.length).2)) ∧ (0 ≤ n ↔ (scanQ q 0 l.length).1 = true) := by
  have h := idx_loopS E (S := fun i => [] :: S i) hl h1 h2 ht l.length 0 (by omega)
  cases hq : (scanQ q 0 l.length).1
  · refine ⟨-1, ?_, by simp⟩
    refine call_to hT (idxFn.eq_1 _ _) rfl (hlen _) ?_
    simp [h1, h2]
    refine WL.mono (by simpa using h) ?_
    rintro x e σ' ⟨rfl, h10⟩
    rw [hq] at h10
    simp only [Bool.false_eq_true, if_false] at h10
    subst h10
    simp
  · obtain ⟨x, e, σ', hw, rfl, h10⟩ := h
    rw [hq] at h10
    simp only [if_true] at h10
    obtain ⟨rfl, j, hj⟩ := h10
    refine ⟨j, ?_, by simp⟩
    refine call_to hT (idxFn.eq_1 _ _) rfl (hlen _) ?_
    simp [h1, h2]
    refine ⟨_, _, _, by simpa using hw, ?_⟩
    simp [hj]

theorem contains_ofS {f i : Nat} (hT : T f = some (containsFn i)) (hi : T i = some (idxFn E.ag E.w)) (hl : l.length ≤ 9223372036854775807) (h1 : fv.strip = fv) (h2 : fv.calm = fv) (hlen : ∀ i, (S i).length = (S 0).length)
    (ht : ∀ i x, l[i]? = some x → callv (lim T) false fv [E.val x] ([] :: [] :: S i) = some (.bool (q i), [] :: [] :: S (i + 1))) :
    lim T (.call false f [.lst l.length (l.flatMap E.enc), fv] (S 0)) = some (.val (.bool (scanQ q 0 l.length).1) (S (scanQ q 0 l.length).2)) := by
  obtain ⟨n, h, hn⟩ := index_ofS E (S := fun i => [] :: S i) hi hl h1 h2 (fun i => by simp [hlen i]) ht
  refine call_to hT (containsFn.eq_1 _) rfl (hlen _) ?_
  have h4 : decide (0 ≤ n) = (scanQ q 0 l.length).1 := by
    cases hq : (scanQ q 0 l.length).1
    · rw [hq] at hn; simp at hn; exact decide_eq_false (by omega)
    · exact decide_eq_true (hn.2 hq)
  simp [h1, h2, h, h4]

theorem all1_ofS {g : Nat} {x : α} {b : Bool} {σ σ' : Stack} (hT : T g = some (all1Fn E.ag E.w)) (hlen : σ'.length = σ.length) (h1 : fv.strip = fv) (h2 : fv.calm = fv) (ht : callv (lim T) false fv [E.val x] ([] :: σ) = some (.bool b, [] :: σ')) :
    callv (lim T) false (.fn g [] [.cref [fv]]) [E.val x] σ = some (.bool (!b), σ') := by
  rw [callv_fn]
  have hc := E.cells x
  have hl := E.load x
  have hs := E.strip x
  have hcm := E.calm x
  have key : lim T (.call false g ([] ++ [E.val x] ++ [.cref [fv]]) σ) = some (.val (.bool (!b)) σ') := by
    generalize E.ag = ag at *
    cases ag with
    | true =>
      refine call_to hT (all1Fn.eq_1 _) rfl hlen ?_
      simp [h1, h2, ht, hc, hl, hs, hcm]
    | false =>
      refine call_to hT (all1Fn.eq_2 _) rfl hlen ?_
      simp [h1, h2, ht, hc, hl, hs, hcm]
  rw [key]; rfl

/-- The answer of 'all': is p so everywhere, element by element, the store going on? -/
theorem all_ofS {f g h i : Nat} {p : Nat → Bool} (hf : T f = some (allFn g h)) (hg : T g = some (all1Fn E.ag E.w)) (hh : T h = some (containsFn i)) (hi : T i = some (idxFn E.ag E.w))
    (hl : l.length ≤ 9223372036854775807) (h1 : fv.strip = fv) (h2 : fv.calm = fv) (hcl : fv.cells = some [fv]) (hlen : ∀ i, (S i).length = (S 0).length)
    (ht : ∀ i x, l[i]? = some x → callv (lim T) false fv [E.val x] ([] :: [] :: [] :: [] :: S i) = some (.bool (p i), [] :: [] :: [] :: [] :: S (i + 1))) :
    lim T (.call false f [.lst l.length (l.flatMap E.enc), fv] (S 0)) = some (.val (.bool !(scanQ (fun i => !p i) 0 l.length).1) (S (scanQ (fun i => !p i) 0 l.length).2)) := by
  have hc := contains_ofS E (S := fun i => [] :: S i) (fv := .fn g [] [.cref [fv]]) (q := fun i => !p i) hh hi hl rfl rfl (fun i => by simp [hlen i]) (fun i x hx => all1_ofS E hg (by simp [hlen i, hlen (i + 1)]) h1 h2 (ht i x hx))
  refine call_to hf (allFn.eq_1 _ _) rfl (hlen _) ?_
  simp [h1, h2, hc, hcl]

/-- .. by a function that reads the store, and leaves it as it is. -/
theorem all_ofC {f g h i : Nat} {p : α → Bool} {σ : Stack} (hf : T f = some (allFn g h)) (hg : T g = some (all1Fn E.ag E.w)) (hh : T h = some (containsFn i)) (hi : T i = some (idxFn E.ag E.w))
    (hl : l.length ≤ 9223372036854775807) (h1 : fv.strip = fv) (h2 : fv.calm = fv) (hcl : fv.cells = some [fv])
    (ht : ∀ x ∈ l, callv (lim T) false fv [E.val x] ([] :: [] :: [] :: [] :: σ) = some (.bool (p x), [] :: [] :: [] :: [] :: σ)) :
    lim T (.call false f [.lst l.length (l.flatMap E.enc), fv] σ) = some (.val (.bool (allB l p)) σ) := by
  have h0 := all_ofS E (T := T) (S := fun _ => σ) (fv := fv) (l := l) (p := fun i => match l[i]? with | some x => p x | none => true) hf hg hh hi hl h1 h2 hcl (fun _ => rfl) (fun i x hx => by
    rw [ht x (List.mem_of_getElem? hx)]
    simp [hx])
  have he : (!(scanQ (fun i => !(match l[i]? with | some x => p x | none => true)) 0 l.length).1) = allB l p := by
    have h2 := scanQ_all (q := fun i => !(match l[i]? with | some x => p x | none => true)) (m := l.length) (i := 0)
    cases hw : allB l p
    · rw [Bool.not_eq_false']
      cases hs : (scanQ (fun i => !(match l[i]? with | some x => p x | none => true)) 0 l.length).1
      · have h3 := h2.1 hs
        have h4 : allB l p = true := allB_iff.2 fun x hx => by
          obtain ⟨j, hj⟩ := List.getElem?_of_mem hx
          have := h3 j (List.getElem?_eq_some_iff.1 hj).1
          simpa [hj] using this
        rw [hw] at h4; cases h4
      · rfl
    · rw [Bool.not_eq_true']
      refine h2.2 fun j hj => ?_
      have hx := List.getElem?_eq_getElem hj
      have := allB_iff.1 hw _ (List.getElem_mem hj)
      simp [hx, this]
  rw [he] at h0
  exact h0
end
end Go.Abs
