/-
  'All' of a slice that lies in the store.
-/
import Derived.Test.YtehandllpmlcoaaGreatGenS
set_option linter.unusedVariables false
set_option linter.unusedSimpArgs false
namespace Go.Abs
open Go
variable {T : Tbl}

theorem seg_lt {F : List Blk} : ∀ {σ : Stack} {lv : Nat}, seg? σ lv = some F → lv < σ.length
  | [], lv, h => by simp [seg?] at h
  | s :: σ, lv, h => by
    simp only [seg?] at h
    split at h
    · rename_i h1; simp; omega
    · have := seg_lt h; simp; omega

section
variable {α : Type} {w : Nat} {enc : α → List D} (hw : ∀ x, (enc x).length = w) {p : α → Bool} {fv : D} {l : List α} {lv bi v : Nat} {F : List Blk}

include hw in
theorem idx_loopSl (hF : F[bi]? = some (.cells v (l.flatMap enc))) (hl : l.length ≤ 9223372036854775807) (ht : Tests T fv (fun x => .agg (enc x)) p l) {σ : Stack} (hs : seg? σ lv = some F) : ∀ (m i : Nat), i + m = l.length →
    WL T [0, 1, 7, 8] false (idxL true w) [(0, .sl lv bi v 0 l.length w), (1, fv), (7, .int .i64 l.length), (8, .int .i64 i)] σ
      (fun x e σ' => σ' = σ ∧ if idxOf p (l.drop i) < 0 then x = .exit 0 else x = .ret ∧ get e 4 = .int .i64 (i + idxOf p (l.drop i)))
  | 0, i, hi => by
    obtain ⟨h1, h2, h3⟩ := ht
    refine WL_step (idxL.eq_1 _ _) ?_
    have : ¬ i < l.length := by omega
    have h5 : l.drop i = [] := by simp; omega
    simp [this, h1, h2, h5, idxOf]
  | m + 1, i, hi => by
    have ih := idx_loopSl hF hl ht hs m (i + 1) (by omega)
    obtain ⟨h1, h2, h3⟩ := ht
    refine WL_step (idxL.eq_1 _ _) ?_
    have h4 : i < l.length := by omega
    obtain ⟨x, hx⟩ : ∃ x, l[i]? = some x := ⟨_, List.getElem?_eq_getElem h4⟩
    have h5 := k_drop (f := enc) hw hx
    have h6 := h3 x (List.mem_of_getElem? hx) σ
    have h7 := wnext h4 hl
    have h8 : l.drop i = x :: l.drop (i + 1) := drop_at hx
    have e1 : ∀ r : List D, (enc x ++ r).take w = enc x := fun r => by rw [← hw x]; simp
    have e2 : ∀ r : Nat, w ≤ (enc x).length + r := fun r => by rw [hw]; omega
    cases hp : p x
    · rw [hp] at h6
      simp [h4, h1, h2, h5, h6, h7, hs, hF, e1, e2]
      refine WL.mono (by simpa using ih) ?_
      rintro x e σ' ⟨h9, h10⟩
      refine ⟨h9, ?_⟩
      rw [h8]
      simp only [idxOf, hp, Bool.false_eq_true, if_false]
      by_cases h11 : idxOf p (l.drop (i + 1)) < 0
      · simpa [h11] using h10
      · rw [if_neg h11] at h10
        rw [if_neg h11, if_neg (by omega)]
        refine ⟨h10.1, ?_⟩
        rw [h10.2]
        congr 1
        push_cast
        omega
    · rw [hp] at h6
      simp [h4, h1, h2, h5, h6, h7, hs, hF, e1, e2, h8, idxOf, hp]

include hw in
theorem index_ofSl {f : Nat} (hT : T f = some (idxFn true w)) (hF : F[bi]? = some (.cells v (l.flatMap enc))) (hl : l.length ≤ 9223372036854775807) (ht : Tests T fv (fun x => .agg (enc x)) p l) {σ : Stack} (hs : seg? σ lv = some F) :
    lim T (.call false f [.sl lv bi v 0 l.length w, fv] σ) = some (.val (.int .i64 (idxOf p l)) σ) := by
  refine call_of hT (idxFn.eq_1 _ _) rfl ?_
  have hlt := seg_lt hs
  have h := idx_loopSl hw hF hl ht (lv := lv) (F := F) (σ := [] :: σ) (by simp [seg?, hs, show ¬ σ.length = lv by omega]) l.length 0 (by simp)
  obtain ⟨h1, h2, h3⟩ := ht
  simp [h1, h2]
  refine WL.mono (by simpa using h) ?_
  rintro x e σ' ⟨rfl, h10⟩
  try simp only [List.drop_zero] at h10
  by_cases h11 : idxOf p l < 0
  · rw [if_pos h11] at h10
    subst h10
    have : idxOf p l = -1 := by
      cases l with
      | nil => rfl
      | cons a l =>
        simp only [idxOf] at h11 ⊢
        split at h11 <;> rename_i ha
        · omega
        · rw [if_neg ha]
          split at h11 <;> rename_i hb
          · rw [if_pos hb]
          · omega
    simp [this]
  · rw [if_neg h11] at h10
    obtain ⟨rfl, h12⟩ := h10
    try simp at h12
    simp [h12]

include hw in
theorem contains_ofSl {f i : Nat} (hT : T f = some (containsFn i)) (hi : T i = some (idxFn true w)) (hF : F[bi]? = some (.cells v (l.flatMap enc))) (hl : l.length ≤ 9223372036854775807) (ht : Tests T fv (fun x => .agg (enc x)) p l) {σ : Stack} (hs : seg? σ lv = some F) :
    lim T (.call false f [.sl lv bi v 0 l.length w, fv] σ) = some (.val (.bool (anyB l p)) σ) := by
  refine call_of hT (containsFn.eq_1 _) rfl ?_
  have hlt := seg_lt hs
  have h := index_ofSl hw hi hF hl ht (lv := lv) (F := F) (σ := [] :: σ) (by simp [seg?, hs, show ¬ σ.length = lv by omega])
  obtain ⟨h1, h2, h3⟩ := ht
  have h4 : decide (0 ≤ idxOf p l) = anyB l p := by
    unfold anyB
    have h6 := idxOf_neg (p := p) (l := l)
    cases h5 : l.any p
    · have := h6.2 h5
      exact decide_eq_false (by omega)
    · exact decide_eq_true (by
        have : ¬ idxOf p l < 0 := fun h => by rw [h6.1 h] at h5; cases h5
        omega)
  simp [h1, h2, h, h4]

include hw in
theorem all_ofSl {f g h i : Nat} (hf : T f = some (allFn g h)) (hg : T g = some (all1Fn true w)) (hh : T h = some (containsFn i)) (hi : T i = some (idxFn true w))
    (hF : F[bi]? = some (.cells v (l.flatMap enc))) (hl : l.length ≤ 9223372036854775807) (ht : Tests T fv (fun x => .agg (enc x)) p l) (hcl : fv.cells = some [fv]) {σ : Stack} (hs : seg? σ lv = some F) :
    lim T (.call false f [.sl lv bi v 0 l.length w, fv] σ) = some (.val (.bool (allB l p)) σ) := by
  refine call_of hf (allFn.eq_1 _ _) rfl ?_
  have hlt := seg_lt hs
  have h := contains_ofSl hw hh hi hF hl (all1_of (eltAgg w enc hw) hg ht) (lv := lv) (F := F) (σ := [] :: σ) (by simp [seg?, hs, show ¬ σ.length = lv by omega])
  obtain ⟨h1, h2, h3⟩ := ht
  have h4 : (anyB l fun x => !p x) = !allB l p := by
    unfold anyB allB
    rw [List.all_eq_not_any_not, Bool.not_not]
  simp [h1, h2, h, h4, hcl]
end
end Go.Abs
