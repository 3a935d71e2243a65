/-
  Layer 4, between wells, in plain Lean: labels that go along sure observations are settled after as many rounds as there are wells.
-/
import Derived.Test.YtehandllpmlcoaaBase3
set_option linter.unusedVariables false
set_option linter.unusedSimpArgs false
namespace Go.Trial
open Go Go.Abs

def rep {α : Type} (f : α → α) : Nat → α → α
  | 0, a => a
  | k + 1, a => f (rep f k a)
theorem rep_fix {α : Type} {f : α → α} {a : α} (h : f a = a) : ∀ k, rep f k a = a
  | 0 => rfl
  | k + 1 => by rw [rep, rep_fix h k, h]
theorem rep_add {α : Type} {f : α → α} {a : α} (j : Nat) : ∀ k, rep f (k + j) a = rep f k (rep f j a)
  | 0 => by simp [rep]
  | k + 1 => by rw [show k + 1 + j = (k + j) + 1 by omega, rep, rep, rep_add j k]

abbrev Lab := Nat → Nat
def stp (g : Lab) (e : Nat × Nat) : Lab := fun z => if z = e.1 ∨ z = e.2 then min (g e.1) (g e.2) else g z
def rnd (es : List (Nat × Nat)) (g : Lab) : Lab := es.foldl stp g
theorem stp_le (g : Lab) (e : Nat × Nat) (z : Nat) : stp g e z ≤ g z := by
  unfold stp
  split
  · rename_i h
    rcases h with rfl | rfl <;> omega
  · exact Nat.le_refl _
theorem rnd_le (es : List (Nat × Nat)) : ∀ (g : Lab) (z : Nat), rnd es g z ≤ g z := by
  induction es with
  | nil => intro g z; exact Nat.le_refl _
  | cons e es ih =>
    intro g z
    have h1 := ih (stp g e) z
    have h2 := stp_le g e z
    simp only [rnd, List.foldl_cons] at h1 ⊢
    omega
theorem rep_le (es : List (Nat × Nat)) (g : Lab) (z : Nat) : ∀ k, rep (rnd es) k g z ≤ g z
  | 0 => Nat.le_refl _
  | k + 1 => Nat.le_trans (rnd_le es _ z) (rep_le es g z k)
/-- Where a round changes nothing no edge has two labels. -/
theorem fix_edge : ∀ {es : List (Nat × Nat)} {g : Lab}, rnd es g = g → ∀ e ∈ es, g e.1 = g e.2
  | [], g, _, e, he => by simp at he
  | e0 :: es, g, h, e, he => by
    have h1 : stp g e0 = g := by
      funext z
      have h2 := stp_le g e0 z
      have h3 := rnd_le es (stp g e0) z
      have h4 : rnd es (stp g e0) z = g z := by rw [← congrFun h z]; rfl
      omega
    have h2 : rnd es g = g := by
      have : rnd es (stp g e0) = g := h
      rwa [h1] at this
    rcases List.mem_cons.1 he with rfl | he
    · have a := congrFun h1 e.1
      have b := congrFun h1 e.2
      simp only [stp, true_or, or_true, if_true] at a b
      omega
    · exact fix_edge h2 e he
/-- What holds of all labels and goes along edges. -/
theorem rnd_keep {P : Nat → Nat → Prop} {es : List (Nat × Nat)} (h : ∀ e ∈ es, ∀ x, (P e.1 x ↔ P e.2 x)) : ∀ {g : Lab}, (∀ z, P z (g z)) → ∀ z, P z (rnd es g z) := by
  induction es with
  | nil => intro g hg z; exact hg z
  | cons e es ih =>
    intro g hg z
    have he := h e (by simp)
    refine ih (fun e he => h e (by simp [he])) (g := stp g e) ?_ z
    intro z
    unfold stp
    split
    · rename_i hz
      have h1 := hg e.1
      have h2 := hg e.2
      rcases hz with rfl | rfl
      · rcases Nat.le_total (g e.1) (g e.2) with h3 | h3
        · rw [Nat.min_eq_left h3]; exact h1
        · rw [Nat.min_eq_right h3]; exact (he _).2 h2
      · rcases Nat.le_total (g e.1) (g e.2) with h3 | h3
        · rw [Nat.min_eq_left h3]; exact (he _).1 h1
        · rw [Nat.min_eq_right h3]; exact h2
    · exact hg z
theorem rep_keep {P : Nat → Nat → Prop} {es : List (Nat × Nat)} (h : ∀ e ∈ es, ∀ x, (P e.1 x ↔ P e.2 x)) {g : Lab} (hg : ∀ z, P z (g z)) : ∀ k z, P z (rep (rnd es) k g z)
  | 0 => hg
  | k + 1 => rnd_keep h (rep_keep h hg k)
/-- Labels of a division that has no edge with two parts. -/
theorem rep_parts {α : Type} {f : Nat → α} {es : List (Nat × Nat)} (h : ∀ e ∈ es, f e.1 = f e.2) (k z : Nat) : f (rep (rnd es) k id z) = f z :=
  rep_keep (P := fun z x => f x = f z) (fun e he x => by rw [h e he]) (fun z => rfl) k z

/-! ### A round that changes nothing comes -/

theorem sum_le {f g : Lab} : ∀ l : List Nat, (∀ z ∈ l, f z ≤ g z) → (l.map f).sum ≤ (l.map g).sum
  | [], _ => by simp
  | a :: l, h => by
    have h1 := h a (by simp)
    have h2 := sum_le l fun z hz => h z (by simp [hz])
    simp only [List.map_cons, List.sum_cons]
    omega
theorem sum_lt {f g : Lab} : ∀ l : List Nat, (∀ z ∈ l, f z ≤ g z) → (∃ z ∈ l, f z < g z) → (l.map f).sum < (l.map g).sum
  | [], _, ⟨z, hz, _⟩ => by simp at hz
  | a :: l, h, ⟨z, hz, hlt⟩ => by
    have h1 := h a (by simp)
    have h2 := sum_le l fun z hz => h z (by simp [hz])
    simp only [List.map_cons, List.sum_cons]
    rcases List.mem_cons.1 hz with rfl | hz
    · omega
    · have := sum_lt l (fun z hz => h z (by simp [hz])) ⟨z, hz, hlt⟩
      omega
theorem rnd_out {es : List (Nat × Nat)} {n : Nat} (hn : ∀ e ∈ es, e.1 < n ∧ e.2 < n) : ∀ (g : Lab) {z : Nat}, n ≤ z → rnd es g z = g z := by
  induction es with
  | nil => intro g z _; rfl
  | cons e es ih =>
    intro g z hz
    have h1 := hn e (by simp)
    have h2 := ih (fun e he => hn e (by simp [he])) (stp g e) hz
    have h3 : stp g e z = g z := by
      unfold stp
      rw [if_neg (by omega)]
    simp only [rnd, List.foldl_cons] at h2 ⊢
    rw [h2, h3]
theorem fix_some {es : List (Nat × Nat)} {n : Nat} (hn : ∀ e ∈ es, e.1 < n ∧ e.2 < n) : ∀ (m : Nat) (g : Lab), ((List.range n).map g).sum ≤ m → ∃ k, rnd es (rep (rnd es) k g) = rep (rnd es) k g
  | m, g, h => by
    by_cases hf : rnd es g = g
    · exact ⟨0, hf⟩
    have hlt : ((List.range n).map (rnd es g)).sum < ((List.range n).map g).sum := by
      refine sum_lt _ (fun z _ => rnd_le es g z) ?_
      apply Classical.byContradiction
      intro hno
      apply hf
      funext z
      by_cases hz : z < n
      · have h1 := rnd_le es g z
        have h2 : ¬ rnd es g z < g z := fun hh => hno ⟨z, by simp [hz], hh⟩
        omega
      · exact rnd_out hn g (by omega)
    cases m with
    | zero => omega
    | succ m =>
      obtain ⟨k, hk⟩ := fix_some hn m (rnd es g) (by omega)
      refine ⟨k + 1, ?_⟩
      rw [rep_add 1 k]
      exact hk

theorem cnt_le {p q : Nat → Bool} : ∀ l : List Nat, (∀ z ∈ l, p z = true → q z = true) → l.countP p ≤ l.countP q
  | [], _ => by simp
  | a :: l, h => by
    have h1 := h a (by simp)
    have h2 := cnt_le l fun z hz => h z (by simp [hz])
    simp only [List.countP_cons]
    cases hp : p a
    · simp; omega
    · rw [h1 hp]; simp; omega
theorem cnt_lt {p q : Nat → Bool} : ∀ l : List Nat, (∀ z ∈ l, p z = true → q z = true) → (∃ z ∈ l, p z = false ∧ q z = true) → l.countP p < l.countP q
  | [], _, ⟨z, hz, _⟩ => by simp at hz
  | a :: l, h, ⟨z, hz, h3, h4⟩ => by
    have h1 := h a (by simp)
    have h2 := cnt_le l fun z hz => h z (by simp [hz])
    simp only [List.countP_cons]
    rcases List.mem_cons.1 hz with rfl | hz
    · rw [h3, h4]; simp; omega
    · have h5 := cnt_lt l (fun z hz => h z (by simp [hz])) ⟨z, hz, h3, h4⟩
      cases hp : p a
      · simp; omega
      · rw [h1 hp]; simp; omega
/-- What is the same in the last labels stays so, and an edge's other end follows. -/
theorem rnd_meets {L : Lab} {es : List (Nat × Nat)} (hL : ∀ e ∈ es, L e.1 = L e.2) : ∀ (g : Lab), (∀ z, L z ≤ g z) → (∀ z, L z ≤ rnd es g z) ∧ (∀ z, g z = L z → rnd es g z = L z) ∧
    (∀ e ∈ es, (g e.1 = L e.1 ∨ g e.2 = L e.2) → rnd es g e.1 = L e.1 ∧ rnd es g e.2 = L e.2) := by
  induction es with
  | nil => intro g hg; exact ⟨hg, fun z h => h, by simp⟩
  | cons e es ih =>
    intro g hg
    have he := hL e (by simp)
    have h1 : ∀ z, L z ≤ stp g e z := by
      intro z
      unfold stp
      have a := hg e.1
      have b := hg e.2
      split
      · rename_i hz
        rcases hz with rfl | rfl <;> omega
      · exact hg z
    have h2 : ∀ z, g z = L z → stp g e z = L z := by
      intro z hz
      have := stp_le g e z
      have := h1 z
      omega
    have h3 : (g e.1 = L e.1 ∨ g e.2 = L e.2) → stp g e e.1 = L e.1 ∧ stp g e e.2 = L e.2 := by
      intro hh
      have a := hg e.1
      have b := hg e.2
      simp only [stp, true_or, or_true, if_true]
      omega
    obtain ⟨i1, i2, i3⟩ := ih (fun e he => hL e (by simp [he])) (stp g e) h1
    have er : ∀ z, rnd (e :: es) g z = rnd es (stp g e) z := fun _ => rfl
    refine ⟨fun z => by rw [er]; exact i1 z, fun z hz => by rw [er]; exact i2 z (h2 z hz), fun e' he' hh => ?_⟩
    rw [er, er]
    rcases List.mem_cons.1 he' with rfl | he'
    · exact ⟨i2 _ (h3 hh).1, i2 _ (h3 hh).2⟩
    · rcases hh with hh | hh
      · exact i3 e' he' (.inl (h2 _ hh))
      · exact i3 e' he' (.inr (h2 _ hh))
/-- After as many rounds as there are wells nothing changes any more. -/
theorem settled {es : List (Nat × Nat)} {n : Nat} (hn : ∀ e ∈ es, e.1 < n ∧ e.2 < n) : rnd es (rep (rnd es) n id) = rep (rnd es) n id := by
  obtain ⟨K, hK⟩ := fix_some hn _ id (Nat.le_refl _)
  generalize hL : rep (rnd es) K id = L at hK
  have hE := fix_edge hK
  have hLe : ∀ z, L z ≤ z := fun z => by rw [← hL]; exact rep_le es id z K
  have hLL : ∀ z, L (L z) = L z := fun z => by have := rep_parts (f := L) hE K z; rwa [hL] at this
  have hge : ∀ k z, L z ≤ rep (rnd es) k id z := by
    intro k
    induction k with
    | zero => exact hLe
    | succ k ih => exact (rnd_meets hE _ ih).1
  have hle : ∀ k z, rep (rnd es) k id z ≤ z := fun k z => rep_le es id z k
  have key : ∀ k, rep (rnd es) k id = L ∨ (List.range n).countP (fun z => rep (rnd es) k id z != L z) + k ≤ n := by
    intro k
    induction k with
    | zero =>
      right
      have := List.countP_le_length (p := fun z => rep (rnd es) 0 id z != L z) (l := List.range n)
      simp only [List.length_range] at this
      omega
    | succ k ih =>
      rcases ih with ih | ih
      · left
        rw [rep, ih, hK]
      by_cases hD : ∀ z, rep (rnd es) k id z = L z
      · left
        have : rep (rnd es) k id = L := funext hD
        rw [rep, this, hK]
      right
      generalize hg : rep (rnd es) k id = g at *
      have hgL : ∀ z, L z ≤ g z := fun z => by rw [← hg]; exact hge k z
      have hgz : ∀ z, g z ≤ z := fun z => by rw [← hg]; exact hle k z
      obtain ⟨m1, m2, m3⟩ := rnd_meets hE g hgL
      have hex : ∃ e ∈ es, (g e.1 = L e.1 ∧ g e.2 ≠ L e.2) ∨ (g e.2 = L e.2 ∧ g e.1 ≠ L e.1) := by
        apply Classical.byContradiction
        intro hno
        apply hD
        have hcl : ∀ e ∈ es, (g e.1 = L e.1 ↔ g e.2 = L e.2) := by
          intro e he
          constructor
          · intro h1
            apply Classical.byContradiction
            intro h2
            exact hno ⟨e, he, .inl ⟨h1, h2⟩⟩
          · intro h1
            apply Classical.byContradiction
            intro h2
            exact hno ⟨e, he, .inr ⟨h1, h2⟩⟩
        have hk := rep_keep (P := fun z x => g z = L z ∨ g x ≠ L x) (es := es) (fun e he x => by simp only [hcl e he]) (g := id) (fun z => by
          by_cases h : g z = L z
          · exact .inl h
          · exact .inr h) K
        rw [hL] at hk
        intro z
        rcases hk z with h | h
        · exact h
        · exfalso
          apply h
          have a := hgL (L z)
          have b := hgz (L z)
          have c := hLL z
          omega
      have hlt : (List.range n).countP (fun z => rnd es g z != L z) < (List.range n).countP (fun z => g z != L z) := by
        refine cnt_lt _ (fun z _ h => ?_) ?_
        · simp only [bne_iff_ne, ne_eq] at h ⊢
          exact fun h' => h (m2 z h')
        · obtain ⟨e, he, h | h⟩ := hex
          · exact ⟨e.2, by simp [(hn e he).2], by simp [(m3 e he (.inl h.1)).2], by simpa using h.2⟩
          · exact ⟨e.1, by simp [(hn e he).1], by simp [(m3 e he (.inr h.1)).1], by simpa using h.2⟩
      rw [rep, hg]
      omega
  rcases key n with h | h
  · rw [h]; exact hK
  · have h0 : (List.range n).countP (fun z => rep (rnd es) n id z != L z) = 0 := by omega
    have : rep (rnd es) n id = L := by
      funext z
      by_cases hz : z < n
      · have := List.countP_eq_zero.1 h0 z (by simp [hz])
        simpa using this
      · have a : ∀ k, rep (rnd es) k id z = z := by
          intro k
          induction k with
          | zero => rfl
          | succ k ih => rw [rep, rnd_out hn _ (by omega), ih]
        rw [a n, ← hL, a K]
    rw [this]; exact hK
end Go.Trial
