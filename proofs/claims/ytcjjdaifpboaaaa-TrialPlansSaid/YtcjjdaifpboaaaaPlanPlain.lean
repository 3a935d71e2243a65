/-
  The least plan in plain Lean: the first set of wells that is found, size by size, is the least of all.
-/
import Derived.Test.YtcjjdaifpboaaaaSurvSpec
set_option linter.unusedVariables false
set_option linter.unusedSimpArgs false
namespace Go.Trial
open Go Go.Abs

/-- Rising numbers from lo, below W. -/
def Asc (W : Nat) : Nat → List Nat → Prop
  | _, [] => True
  | lo, x :: c => lo ≤ x ∧ x < W ∧ Asc W (x + 1) c
/-- Fewer, or as many and less, number by number. -/
def bef1 : List Nat → List Nat → Bool
  | x :: a, y :: b => if x = y then bef1 a b else decide (x < y)
  | _, _ => false
def bef (a b : List Nat) : Bool := if a.length = b.length then bef1 a b else decide (a.length < b.length)
theorem bef1_tri : ∀ {a b : List Nat}, a.length = b.length → bef1 a b = false → bef1 b a = false → a = b
  | [], [], _, _, _ => rfl
  | x :: a, y :: b, hl, h1, h2 => by
    simp only [List.length_cons, Nat.add_right_cancel_iff] at hl
    simp only [bef1] at h1 h2
    by_cases h : x = y
    · subst h
      simp only [if_true] at h1 h2
      rw [bef1_tri hl h1 h2]
    · rw [if_neg h] at h1
      rw [if_neg (fun h' => h h'.symm)] at h2
      simp only [decide_eq_false_iff_not] at h1 h2
      omega
theorem bef_tri {a b : List Nat} (h1 : bef a b = false) (h2 : bef b a = false) : a = b := by
  unfold bef at h1 h2
  by_cases h : a.length = b.length
  · rw [if_pos h] at h1
    rw [if_pos h.symm] at h2
    exact bef1_tri h h1 h2
  · rw [if_neg h] at h1
    rw [if_neg (fun h' => h h'.symm)] at h2
    simp only [decide_eq_false_iff_not] at h1 h2
    omega

variable {W : Nat} {dec : List Nat → Bool}
/-- The first set that decides: so many more wells, from one on. -/
def growF (W : Nat) (dec : List Nat → Bool) : Nat → Nat → List Nat → Option (List Nat)
  | 0, _, now => if dec now then some now else none
  | k + 1, lo, now => (List.range' lo (W - k - lo)).findSome? fun w => growF W dec k (w + 1) (now ++ [w])
theorem asc_len : ∀ {c : List Nat} {lo : Nat}, Asc W lo c → lo ≤ W → lo + c.length ≤ W
  | [], lo, _, h => by simpa using h
  | x :: c, lo, h, _ => by
    have := asc_len h.2.2 (by have := h.2.1; omega)
    have h1 := h.1
    simp only [List.length_cons]
    omega
theorem grow_none : ∀ (k lo : Nat) (now : List Nat), lo ≤ W → growF W dec k lo now = none → ∀ c, Asc W lo c → c.length = k → dec (now ++ c) = false
  | 0, lo, now, hlo, h, c, hc, hl => by
    have : c = [] := List.eq_nil_of_length_eq_zero hl
    subst this
    simp only [growF] at h
    split at h
    · cases h
    · rename_i hd
      rw [List.append_nil]
      simpa using hd
  | k + 1, lo, now, hlo, h, c, hc, hl => by
    cases c with
    | nil => simp at hl
    | cons x c =>
      simp only [List.length_cons, Nat.add_right_cancel_iff] at hl
      simp only [growF, List.findSome?_eq_none_iff] at h
      have hx := asc_len hc.2.2 (by have := hc.2.1; omega)
      have h1 := hc.1
      have := grow_none k (x + 1) (now ++ [x]) (by have := hc.2.1; omega) (h x (by simp only [List.mem_range'_1]; omega)) c hc.2.2 hl
      simpa using this
theorem find_some : ∀ (n lo : Nat) {f : Nat → Option (List Nat)} {r : List Nat}, (List.range' lo n).findSome? f = some r → ∃ w, lo ≤ w ∧ w < lo + n ∧ f w = some r ∧ ∀ v, lo ≤ v → v < w → f v = none
  | 0, lo, f, r, h => by simp at h
  | n + 1, lo, f, r, h => by
    rw [List.range'_succ, List.findSome?_cons] at h
    cases hf : f lo with
    | some q =>
      rw [hf] at h
      exact ⟨lo, Nat.le_refl _, by omega, by rw [hf]; exact h, fun v h1 h2 => by omega⟩
    | none =>
      rw [hf] at h
      obtain ⟨w, h1, h2, h3, h4⟩ := find_some n (lo + 1) h
      refine ⟨w, by omega, by omega, h3, fun v h5 h6 => ?_⟩
      by_cases hv : v = lo
      · subst hv; exact hf
      · exact h4 v (by omega) h6
theorem grow_some : ∀ (k lo : Nat) (now r : List Nat), lo ≤ W → growF W dec k lo now = some r → ∃ c, r = now ++ c ∧ Asc W lo c ∧ c.length = k ∧ dec (now ++ c) = true ∧
    ∀ c', Asc W lo c' → c'.length = k → dec (now ++ c') = true → bef1 c' c = false
  | 0, lo, now, r, hlo, h => by
    simp only [growF] at h
    split at h
    · rename_i hd
      cases h
      refine ⟨[], by simp, trivial, rfl, by simpa using hd, fun c' _ hl _ => ?_⟩
      have : c' = [] := List.eq_nil_of_length_eq_zero hl
      subst this
      rfl
    · cases h
  | k + 1, lo, now, r, hlo, h => by
    simp only [growF] at h
    obtain ⟨w, h1, h2, h3, h4⟩ := find_some _ _ h
    obtain ⟨c, e1, e2, e3, e4, e5⟩ := grow_some k (w + 1) (now ++ [w]) r (by omega) h3
    refine ⟨w :: c, by simpa using e1, ⟨h1, by omega, e2⟩, by simp [e3], by simpa using e4, fun c' hc hl hd => ?_⟩
    cases c' with
    | nil => simp at hl
    | cons x c' =>
      simp only [List.length_cons, Nat.add_right_cancel_iff] at hl
      simp only [bef1]
      by_cases hx : x = w
      · subst hx
        rw [if_pos rfl]
        exact e5 c' hc.2.2 hl (by simpa using hd)
      · rw [if_neg hx]
        simp only [decide_eq_false_iff_not]
        intro hlt
        have := grow_none k (x + 1) (now ++ [x]) (by have := hc.2.1; omega) (h4 x hc.1 hlt) c' hc.2.2 hl
        rw [List.append_assoc] at this
        simp only [List.cons_append, List.nil_append] at this
        rw [this] at hd
        cases hd
/-- Size by size. -/
def planF (W : Nat) (dec : List Nat → Bool) : Nat → Nat → List Nat
  | 0, _ => []
  | m + 1, k => match growF W dec k 0 [] with
    | some r => r
    | none => planF W dec m (k + 1)
theorem asc_range : ∀ (n lo : Nat), lo + n ≤ W → Asc W lo (List.range' lo n)
  | 0, lo, _ => by simp [Asc]
  | n + 1, lo, h => by
    rw [List.range'_succ]
    exact ⟨Nat.le_refl _, by omega, asc_range n (lo + 1) (by omega)⟩
/-- What is found is a plan, and no other one is less. -/
structure Least (W : Nat) (dec : List Nat → Bool) (r : List Nat) : Prop where
  asc : Asc W 0 r
  ok : dec r = true
  min : ∀ c, Asc W 0 c → dec c = true → bef c r = false
theorem Least.one {r r' : List Nat} (h : Least W dec r) (h' : Least W dec r') : r = r' := bef_tri (h'.min r h.asc h.ok) (h.min r' h'.asc h'.ok)
theorem plan_least (hall : dec (List.range' 0 W) = true) : ∀ (m k : Nat), m + k = W + 1 → (∀ j, j < k → growF W dec j 0 [] = none) → Least W dec (planF W dec m k)
  | 0, k, hm, hk => by
    have h1 := hk W (by omega)
    have := grow_none W 0 [] (by omega) h1 (List.range' 0 W) (asc_range W 0 (by omega)) (by simp)
    rw [List.nil_append, hall] at this
    cases this
  | m + 1, k, hm, hk => by
    simp only [planF]
    cases hg : growF W dec k 0 [] with
    | none =>
      refine plan_least hall m (k + 1) (by omega) fun j hj => ?_
      by_cases h : j = k
      · subst h; exact hg
      · exact hk j (by omega)
    | some r =>
      obtain ⟨c, e1, e2, e3, e4, e5⟩ := grow_some k 0 [] r (by omega) hg
      simp only [List.nil_append] at e1 e4 e5
      subst e1
      refine ⟨e2, e4, fun c' hc hd => ?_⟩
      unfold bef
      by_cases hl : c'.length = r.length
      · rw [if_pos hl]
        exact e5 c' hc (by omega) hd
      · rw [if_neg hl]
        simp only [decide_eq_false_iff_not]
        intro hlt
        have := grow_none c'.length 0 [] (by omega) (hk c'.length (by omega)) c' hc rfl
        rw [List.nil_append, hd] at this
        cases this

/-! ### Sets as numbers -/

def memb (n : Nat) : List Nat := (List.range' 0 10).filter fun i => n.testBit i
theorem asc_filter {p : Nat → Bool} : ∀ (n lo : Nat), (∀ i, W ≤ i → p i = false) → Asc W lo ((List.range' lo n).filter p)
  | 0, lo, _ => by simp [Asc]
  | n + 1, lo, h => by
    have ih := asc_filter n (lo + 1) h
    rw [List.range'_succ, List.filter_cons]
    have up : ∀ {c : List Nat} {a b : Nat}, a ≤ b → Asc W b c → Asc W a c := by
      intro c a b hab hc
      cases c with
      | nil => trivial
      | cons x c => exact ⟨by have := hc.1; omega, hc.2⟩
    split
    · rename_i hp
      refine ⟨Nat.le_refl _, ?_, ih⟩
      by_cases hw : W ≤ lo
      · rw [h lo hw] at hp; cases hp
      · omega
    · exact up (by omega) ih
theorem asc_memb {n : Nat} (h : n < 2 ^ W) : Asc W 0 (memb n) :=
  asc_filter 10 0 fun i hi => Nat.testBit_lt_two_pow (Nat.lt_of_lt_of_le h (Nat.pow_le_pow_right (by decide) hi))
theorem asc_mem : ∀ {c : List Nat} {lo x : Nat}, Asc W lo c → x ∈ c → lo ≤ x ∧ x < W
  | [], lo, x, _, h => by simp at h
  | y :: c, lo, x, hc, h => by
    rcases List.mem_cons.1 h with rfl | h
    · exact ⟨hc.1, hc.2.1⟩
    · have := asc_mem hc.2.2 h
      have h1 := hc.1
      omega
theorem asc_is_filter : ∀ (n lo : Nat) {c : List Nat}, Asc (lo + n) lo c → (List.range' lo n).filter (fun i => decide (i ∈ c)) = c
  | 0, lo, c, h => by
    cases c with
    | nil => rfl
    | cons x c => have := h.1; have := h.2.1; omega
  | n + 1, lo, c, h => by
    rw [List.range'_succ, List.filter_cons]
    have e : lo + (n + 1) = lo + 1 + n := by omega
    rw [e] at h
    cases c with
    | nil =>
      simp
    | cons x c =>
      by_cases hx : x = lo
      · subst hx
        have ih := asc_is_filter n (x + 1) (c := c) h.2.2
        rw [if_pos (by simp)]
        have e2 : (List.range' (x + 1) n).filter (fun i => decide (i ∈ x :: c)) = (List.range' (x + 1) n).filter (fun i => decide (i ∈ c)) := by
          apply List.filter_congr
          intro i hi
          simp only [List.mem_range'_1] at hi
          have : i ≠ x := by omega
          simp [this]
        rw [e2, ih]
      · have h1 : lo + 1 ≤ x := by have := h.1; omega
        have hc : Asc (lo + 1 + n) (lo + 1) (x :: c) := ⟨h1, h.2.1, h.2.2⟩
        have hno : lo ∉ x :: c := fun hm => by have := asc_mem hc hm; omega
        rw [if_neg (by simpa using hno)]
        exact asc_is_filter n (lo + 1) hc
theorem bits_of (p : Nat → Bool) : ∀ W : Nat, ∃ n, n < 2 ^ W ∧ ∀ i, n.testBit i = (decide (i < W) && p i)
  | 0 => ⟨0, by simp, fun i => by simp⟩
  | W + 1 => by
    obtain ⟨n, h1, h2⟩ := bits_of p W
    cases hp : p W
    · refine ⟨n, by rw [Nat.pow_succ]; omega, fun i => ?_⟩
      rw [h2 i]
      by_cases h : i < W
      · simp [h, show i < W + 1 by omega]
      · by_cases h' : i = W
        · subst h'; simp [hp]
        · simp [h, show ¬ i < W + 1 by omega]
    · refine ⟨2 ^ W + n, by rw [Nat.pow_succ]; omega, fun i => ?_⟩
      by_cases h : i < W
      · rw [Nat.testBit_two_pow_add_gt h, h2 i]
        simp [h, show i < W + 1 by omega]
      · by_cases h' : i = W
        · subst h'
          rw [Nat.testBit_two_pow_add_eq, h2 i]
          simp [hp]
        · rw [Nat.testBit_lt_two_pow (i := i) (by
            have : 2 ^ (W + 1) ≤ 2 ^ i := Nat.pow_le_pow_right (by decide) (by omega)
            rw [Nat.pow_succ] at this
            omega)]
          simp [show ¬ i < W + 1 by omega]
theorem memb_of (hW : W ≤ 10) {c : List Nat} (hc : Asc W 0 c) : ∃ n, n < 2 ^ W ∧ memb n = c := by
  obtain ⟨n, h1, h2⟩ := bits_of (fun i => decide (i ∈ c)) W
  refine ⟨n, h1, ?_⟩
  have hc' : Asc (0 + 10) 0 c := by
    have key : ∀ {c : List Nat} {lo : Nat}, Asc W lo c → Asc (0 + 10) lo c := by
      intro c
      induction c with
      | nil => intro _ _; trivial
      | cons x c ih => intro lo h; exact ⟨h.1, by have := h.2.1; omega, ih h.2.2⟩
    exact key hc
  have e := asc_is_filter 10 0 hc'
  have : memb n = (List.range' 0 10).filter (fun i => decide (i ∈ c)) := by
    unfold memb
    apply List.filter_congr
    intro i hi
    rw [h2 i]
    by_cases hm : i ∈ c
    · have := asc_mem hc hm
      simp [hm, this.2]
    · simp [hm]
  rw [this]
  exact e
/-- The reference's way: all sets, one after another. -/
def refF (W : Nat) (dec : List Nat → Bool) : Nat → Nat → List Nat → List Nat
  | 0, _, best => best
  | m + 1, n, best => refF W dec m (n + 1) (if bef (memb n) best && dec (memb n) then memb n else best)
theorem bef_trans {a b c : List Nat} (h1 : bef a b = false) (h2 : bef b c = false) : bef a c = false := by
  have key : ∀ {a b c : List Nat}, a.length = b.length → b.length = c.length → bef1 a b = false → bef1 b c = false → bef1 a c = false := by
    intro a
    induction a with
    | nil => intro b c _ _ _ _; rfl
    | cons x a ih =>
      intro b c l1 l2 h1 h2
      cases b with
      | nil => simp at l1
      | cons y b =>
        cases c with
        | nil => simp at l2
        | cons z c =>
          simp only [List.length_cons, Nat.add_right_cancel_iff] at l1 l2
          simp only [bef1] at h1 h2 ⊢
          by_cases e1 : x = y
          · subst e1
            rw [if_pos rfl] at h1
            by_cases e2 : x = z
            · subst e2
              rw [if_pos rfl] at h2 ⊢
              exact ih l1 l2 h1 h2
            · rw [if_neg e2] at h2 ⊢
              exact h2
          · rw [if_neg e1] at h1
            simp only [decide_eq_false_iff_not] at h1
            by_cases e2 : y = z
            · subst e2
              rw [if_neg e1]
              simpa using h1
            · rw [if_neg e2] at h2
              simp only [decide_eq_false_iff_not] at h2
              rw [if_neg (by omega)]
              simp only [decide_eq_false_iff_not]
              omega
  unfold bef at h1 h2 ⊢
  by_cases l1 : a.length = b.length
  · rw [if_pos l1] at h1
    by_cases l2 : b.length = c.length
    · rw [if_pos l2] at h2
      rw [if_pos (l1.trans l2)]
      exact key l1 l2 h1 h2
    · rw [if_neg l2] at h2
      rw [if_neg (by omega)]
      rw [l1]
      exact h2
  · rw [if_neg l1] at h1
    simp only [decide_eq_false_iff_not] at h1
    by_cases l2 : b.length = c.length
    · rw [if_neg (by omega)]
      simp only [decide_eq_false_iff_not]
      omega
    · rw [if_neg l2] at h2
      simp only [decide_eq_false_iff_not] at h2
      rw [if_neg (by omega)]
      simp only [decide_eq_false_iff_not]
      omega
theorem bef_asymm {a b : List Nat} (h : bef a b = true) : bef b a = false := by
  have key : ∀ {a b : List Nat}, bef1 a b = true → bef1 b a = false := by
    intro a
    induction a with
    | nil => intro b h; cases b <;> simp [bef1] at h
    | cons x a ih =>
      intro b h
      cases b with
      | nil => rfl
      | cons y b =>
        simp only [bef1] at h ⊢
        by_cases e : x = y
        · subst e
          rw [if_pos rfl] at h ⊢
          exact ih h
        · rw [if_neg e] at h
          rw [if_neg (fun h' => e h'.symm)]
          simp only [decide_eq_true_eq, decide_eq_false_iff_not] at h ⊢
          omega
  unfold bef at h ⊢
  by_cases l : a.length = b.length
  · rw [if_pos l] at h
    rw [if_pos l.symm]
    exact key h
  · rw [if_neg l] at h
    rw [if_neg (fun h' => l h'.symm)]
    simp only [decide_eq_true_eq, decide_eq_false_iff_not] at h ⊢
    omega
theorem ref_least : ∀ (m n : Nat) (best : List Nat), n + m = 2 ^ W → Asc W 0 best → dec best = true → (∀ j, j < n → dec (memb j) = true → bef (memb j) best = false) →
    Asc W 0 (refF W dec m n best) ∧ dec (refF W dec m n best) = true ∧ ∀ j, j < 2 ^ W → dec (memb j) = true → bef (memb j) (refF W dec m n best) = false
  | 0, n, best, hn, ha, hd, hm => by
    have : n = 2 ^ W := by omega
    subst this
    exact ⟨ha, hd, hm⟩
  | m + 1, n, best, hn, ha, hd, hm => by
    simp only [refF]
    by_cases hc : (bef (memb n) best && dec (memb n)) = true
    · rw [if_pos hc]
      rw [Bool.and_eq_true] at hc
      refine ref_least m (n + 1) (memb n) (by omega) (asc_memb (by omega)) hc.2 fun j hj hdj => ?_
      by_cases e : j = n
      · subst e
        cases h : bef (memb j) (memb j)
        · rfl
        · have := bef_asymm h; rw [h] at this; cases this
      · exact bef_trans (hm j (by omega) hdj) (bef_asymm hc.1)
    · rw [if_neg hc]
      refine ref_least m (n + 1) best (by omega) ha hd fun j hj hdj => ?_
      by_cases e : j = n
      · subst e
        rw [hdj, Bool.and_true] at hc
        simpa using hc
      · exact hm j (by omega) hdj
theorem full_memb (hW : W ≤ 10) : memb (2 ^ W - 1) = List.range' 0 W := by
  match W, hW with
  | 0, _ | 1, _ | 2, _ | 3, _ | 4, _ | 5, _ | 6, _ | 7, _ | 8, _ | 9, _ | 10, _ => decide
theorem plans_same (hW : W ≤ 10) (hall : dec (List.range' 0 W) = true) : planF W dec (W + 1) 0 = refF W dec (2 ^ W) 0 (memb (2 ^ W - 1)) := by
  have h1 := plan_least hall (W + 1) 0 (by omega) fun j hj => by omega
  have hp : 0 < 2 ^ W := Nat.two_pow_pos W
  obtain ⟨a1, a2, a3⟩ := ref_least (dec := dec) (2 ^ W) 0 (memb (2 ^ W - 1)) (by omega) (asc_memb (W := W) (by omega)) (by rw [full_memb hW]; exact hall) fun j hj => by omega
  refine h1.one ⟨a1, a2, fun c hc hd => ?_⟩
  obtain ⟨n, hn, rfl⟩ := memb_of hW hc
  exact a3 n hn hd
end Go.Trial
