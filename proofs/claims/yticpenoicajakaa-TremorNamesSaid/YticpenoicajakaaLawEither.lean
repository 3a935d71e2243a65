/-
  The law TremorEither answers true.
-/
import Derived.Test.YticpenoicajakaaKP
import Derived.Test.YticpenoicajakaaTremTy
import Derived.Test.YticpenoicajakaaLawTravels
set_option linter.unusedVariables false
set_option linter.unusedSimpArgs false
namespace Go.Proofs.Yticpenoicajakaa
open Go Go.Abs Go.Trem
variable {σ : Stack}

theorem meet_all : ∀ (l : List Rg) (r : Rg), ∀ x ∈ r :: l, x.lo ≤ (l.foldl meet r).lo ∧ (l.foldl meet r).hi ≤ x.hi
  | [], r, x, hx => by simp at hx; subst hx; simp
  | a :: l, r, x, hx => by
    have ih := meet_all l (meet r a)
    rw [List.foldl_cons]
    have h0 := ih (meet r a) (by simp)
    have h1 : (meet r a).lo = max r.lo a.lo := rfl
    have h2 : (meet r a).hi = min r.hi a.hi := rfl
    simp only [List.mem_cons] at hx
    rcases hx with rfl | rfl | hx
    · omega
    · omega
    · exact ih x (by simp [hx])

theorem meet_lo : ∀ (l : List Rg) (r : Rg), ∃ x ∈ r :: l, x.lo = (l.foldl meet r).lo
  | [], r => ⟨r, by simp, rfl⟩
  | a :: l, r => by
    obtain ⟨x, hx, h⟩ := meet_lo l (meet r a)
    rw [List.foldl_cons]
    have h1 : (meet r a).lo = max r.lo a.lo := rfl
    simp only [List.mem_cons] at hx
    rcases hx with rfl | hx
    · by_cases hc : a.lo ≤ r.lo
      · exact ⟨r, by simp, by omega⟩
      · exact ⟨a, by simp, by omega⟩
    · exact ⟨x, by simp [hx], h⟩

theorem meet_hi : ∀ (l : List Rg) (r : Rg), ∃ x ∈ r :: l, x.hi = (l.foldl meet r).hi
  | [], r => ⟨r, by simp, rfl⟩
  | a :: l, r => by
    obtain ⟨x, hx, h⟩ := meet_hi l (meet r a)
    rw [List.foldl_cons]
    have h1 : (meet r a).hi = min r.hi a.hi := rfl
    simp only [List.mem_cons] at hx
    rcases hx with rfl | hx
    · by_cases hc : r.hi ≤ a.hi
      · exact ⟨r, by simp, by omega⟩
      · exact ⟨a, by simp, by omega⟩
    · exact ⟨x, by simp [hx], h⟩

theorem idxOf_any {α : Type} {p : α → Bool} : ∀ {l : List α}, (∃ x ∈ l, p x = true) → ∃ k : Nat, idxOf p l = k ∧ ∃ x, l[k]? = some x ∧ p x = true
  | [], h => by simp at h
  | a :: l, h => by
    by_cases ha : p a = true
    · exact ⟨0, by simp [idxOf, ha], a, by simp, ha⟩
    · obtain ⟨x, hx, hpx⟩ := h
      simp only [List.mem_cons] at hx
      rcases hx with rfl | hx
      · exact absurd hpx ha
      · obtain ⟨k, hk, y, hy, hpy⟩ := idxOf_any (l := l) ⟨x, hx, hpx⟩
        refine ⟨k + 1, ?_, y, by simpa using hy, hpy⟩
        simp only [idxOf, ha, Bool.false_eq_true, if_false]
        rw [hk, if_neg (by omega)]
        push_cast
        rfl

theorem origin_all {n : Net} {l : List Pick} {p : Pt} {a : Pick} (ha : a ∈ l) : (span n a p).lo ≤ (origin n l p).lo ∧ (origin n l p).hi ≤ (span n a p).hi := by
  have h1 : span n a p ∈ l.map fun q => span n q p := List.mem_map_of_mem (f := fun q => span n q p) ha
  unfold origin
  cases h : l.map fun q => span n q p with
  | nil => rw [h] at h1; simp at h1
  | cons r L => rw [h] at h1; exact meet_all L r _ h1

theorem origin_lo {n : Net} {l : List Pick} {p : Pt} (hl : 1 ≤ l.length) : ∃ x ∈ (l.map fun q => span n q p), (x.lo == (origin n l p).lo) = true := by
  unfold origin
  cases h : l.map fun q => span n q p with
  | nil => simp at h; subst h; simp at hl
  | cons r L => obtain ⟨x, h1, h2⟩ := meet_lo L r; exact ⟨x, h1, beq_iff_eq.2 h2⟩
theorem origin_hi {n : Net} {l : List Pick} {p : Pt} (hl : 1 ≤ l.length) : ∃ x ∈ (l.map fun q => span n q p), (x.hi == (origin n l p).hi) = true := by
  unfold origin
  cases h : l.map fun q => span n q p with
  | nil => simp at h; subst h; simp at hl
  | cons r L => obtain ⟨x, h1, h2⟩ := meet_hi L r; exact ⟨x, h1, beq_iff_eq.2 h2⟩

theorem idx_pick {n : Net} {l : List Pick} {p : Pt} {f : Rg → Bool} (h : ∃ x ∈ (l.map fun q => span n q p), f x = true) :
    inn (idxOf f (l.map fun q => span n q p)) 0 (l.length - 1) = true ∧ f (span n (pickAt l (idxOf f (l.map fun q => span n q p))) p) = true := by
  obtain ⟨k, hk, x, hx, hf⟩ := idxOf_any h
  rw [hk]
  rw [List.getElem?_map] at hx
  obtain ⟨a, ha, rfl⟩ := Option.map_eq_some_iff.1 hx
  have h1 := (List.getElem?_eq_some_iff.1 ha).1
  refine ⟨by rw [inn_iff]; omega, ?_⟩
  have : pickAt l (k : Int) = a := by simp [pickAt, List.getD, ha]
  rw [this]; exact hf

theorem prv_reason {n : Net} {l : List Pick} {p : Pt} (hl : 1 ≤ l.length) (h : (origin n l p).ne = false) : prv n l p (reason n l p) = true := by
  have h1 := idx_pick (origin_lo (n := n) (p := p) hl)
  have h2 := idx_pick (origin_hi (n := n) (p := p) hl)
  have h3 : ¬ (origin n l p).lo ≤ (origin n l p).hi := by simpa [Rg.ne] using h
  have h4 : (span n (pickAt l (reason n l p).fst) p).lo = (origin n l p).lo := beq_iff_eq.1 h1.2
  have h5 : (span n (pickAt l (reason n l p).thn) p).hi = (origin n l p).hi := beq_iff_eq.1 h2.2
  have h6 : inn (reason n l p).fst 0 (l.length - 1) = true := h1.1
  have h7 : inn (reason n l p).thn 0 (l.length - 1) = true := h2.1
  simp only [prv, h6, h7, h4, h5, Bool.true_and, decide_eq_true_eq]
  omega

theorem pickAt_mem {l : List Pick} {a : Int} (ha : inn a 0 (l.length - 1) = true) : pickAt l a ∈ l := by
  rw [inn_iff] at ha
  have h1 : a.toNat < l.length := by omega
  simp [pickAt, List.getD, List.getElem?_eq_getElem h1]

theorem prv_ne {n : Net} {l : List Pick} {p : Pt} {q : Pair} (h : (origin n l p).ne = true) : prv n l p q = false := by
  unfold prv
  cases h1 : inn q.fst 0 (l.length - 1)
  · rfl
  cases h2 : inn q.thn 0 (l.length - 1)
  · rfl
  have h3 := origin_all (n := n) (p := p) (pickAt_mem h1)
  have h4 := origin_all (n := n) (p := p) (pickAt_mem h2)
  have h5 : (origin n l p).lo ≤ (origin n l p).hi := by simpa [Rg.ne] using h
  simp only [Bool.true_and, decide_eq_false_iff_not]
  omega

theorem prvL_reason {n : Net} {l : List Pick} (hl : 1 ≤ l.length) : ∀ ps : List Pt, (allB ps fun p => !(origin n l p).ne) = true → prvL n l ps (ps.map (reason n l)) = true
  | [], _ => rfl
  | p :: ps, h => by
    have hb : (allB (p :: ps) fun p => !(origin n l p).ne) = (!(origin n l p).ne && allB ps fun p => !(origin n l p).ne) := rfl
    rw [hb] at h
    simp only [Bool.and_eq_true, Bool.not_eq_true'] at h
    simp only [List.map_cons, prvL, prv_reason hl h.1, prvL_reason hl ps h.2, Bool.and_self]

theorem prvL_ne {n : Net} {l : List Pick} : ∀ (ps : List Pt) (qs : List Pair), (allB ps fun p => !(origin n l p).ne) = false → prvL n l ps qs = false
  | [], _, h => by simp [allB] at h
  | p :: ps, [], _ => rfl
  | p :: ps, q :: qs, h => by
    have hb : (allB (p :: ps) fun p => !(origin n l p).ne) = (!(origin n l p).ne && allB ps fun p => !(origin n l p).ne) := rfl
    rw [hb] at h
    simp only [prvL]
    cases hc : (origin n l p).ne
    · rw [hc] at h
      rw [prvL_ne ps qs (by simpa using h), Bool.and_false]
    · rw [prv_ne hc, Bool.false_and]

theorem located_none {n : Net} {l : List Pick} : (located n l).length = 0 ↔ noneB n l = true := by
  unfold located noneB
  generalize lattice n = ps
  induction ps with
  | nil => simp [allB]
  | cons p ps ih =>
    have hb : (allB (p :: ps) fun p => !(origin n l p).ne) = (!(origin n l p).ne && allB ps fun p => !(origin n l p).ne) := rfl
    rw [hb]
    cases hc : (origin n l p).ne
    · simp only [List.filterMap_cons, hc, Bool.false_eq_true, if_false, Bool.not_false, Bool.true_and]
      exact ih
    · simp [List.filterMap_cons, hc]

end Go.Proofs.Yticpenoicajakaa
