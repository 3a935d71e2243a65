/-
  Layer 4 in plain Lean: ranges, curves, tests; what is valid; which curves agree. No program in sight.
-/
import Derived.Test.YtehandllpmlcoaaBase3
set_option linter.unusedVariables false
set_option linter.unusedSimpArgs false
namespace Go.Trial
open Go Go.Abs

structure Rg where
  lo : Int
  hi : Int
  deriving DecidableEq
structure Cv where
  a : Int
  b : Int
  c : Int
  deriving DecidableEq
structure Step where
  q : Int
  d : Rg
structure Test where
  a : Rg
  b : Rg
  c : Rg
  st : List Step
@[simp] theorem Rg.eta (p : Rg) : Rg.mk p.lo p.hi = p := rfl
@[simp] theorem Cv.eta (p : Cv) : Cv.mk p.a p.b p.c = p := rfl
@[simp] theorem Step.eta (p : Step) : Step.mk p.q p.d = p := rfl
@[simp] theorem Test.eta (p : Test) : Test.mk p.a p.b p.c p.st = p := rfl
@[simp] def Rg.enc (r : Rg) : List D := [.int .i64 r.lo, .int .i64 r.hi]
@[simp] def Cv.enc (r : Cv) : List D := [.int .i64 r.a, .int .i64 r.b, .int .i64 r.c]
@[simp] def Step.enc (s : Step) : List D := [.int .i64 s.q, .int .i64 s.d.lo, .int .i64 s.d.hi]
@[simp] def Test.enc (t : Test) : List D := [.int .i64 t.a.lo, .int .i64 t.a.hi, .int .i64 t.b.lo, .int .i64 t.b.hi, .int .i64 t.c.lo, .int .i64 t.c.hi, .lst t.st.length (t.st.flatMap Step.enc)]
@[simp] def intE (n : Int) : List D := [.int .i64 n]
@[simp] def prE (p : Int × Int) : List D := [.int .i64 p.1, .int .i64 p.2]

def inn (n lo hi : Int) : Bool := decide (lo ≤ n) && decide (n ≤ hi)
theorem inn_iff {n lo hi : Int} : inn n lo hi = true ↔ lo ≤ n ∧ n ≤ hi := by simp [inn]
def Rg.has (r : Rg) (n : Int) : Bool := inn n r.lo r.hi
def Rg.right (r : Rg) (lo hi : Int) : Bool := decide (lo ≤ r.lo) && (decide (r.lo ≤ r.hi) && decide (r.hi ≤ hi))
def Rg.drops (r : Rg) : Bool := r.right (-2000000000) 2000000000
def Rg.less (r : Rg) (n : Int) : Rg := ⟨r.lo - n, r.hi - n⟩
def meet (a b : Rg) : Rg := ⟨max a.lo b.lo, min a.hi b.hi⟩
def span (a b : Rg) : Rg := ⟨min a.lo b.lo, max a.hi b.hi⟩
def Rg.ne (r : Rg) : Bool := decide (r.lo ≤ r.hi)
def Cv.drop (c : Cv) (q : Int) : Int := c.a + c.b * q + c.c * q * q
def Step.ok (s : Step) : Bool := inn s.q 0 1000 && s.d.drops
def boxOk (t : Test) : Bool := t.a.right 0 100000 && (t.b.right 0 10000 && (t.c.right 0 1000 && (decide (t.b.hi - t.b.lo < 40) && decide (t.c.hi - t.c.lo < 40))))
/-- The error of a test: 0 (none), 1 (wrong), 3 (too many). -/
def fault (t : Test) : Int := if 12 < t.st.length then 3 else if boxOk t && allB t.st Step.ok then 0 else 1
def rmS (b c : Int) (s : Step) : Rg := s.d.less (Cv.drop ⟨0, b, c⟩ s.q)
def roomsOf (t : Test) (b c : Int) : List Rg := t.a :: t.st.map (rmS b c)
def setOf (t : Test) (b c : Int) : Rg := (t.st.map (rmS b c)).foldl meet t.a
/-- The numbers from lo to hi. -/
def upto (lo hi : Int) : List Int := (List.range (hi - lo + 1).toNat).map fun (i : Nat) => lo + i
def pairs (t : Test) : List (Int × Int) := (upto t.b.lo t.b.hi).flatMap fun b => (upto t.c.lo t.c.hi).map fun c => (b, c)
def setAt (t : Test) (p : Int × Int) : Option (Cv × Rg) := if (setOf t p.1 p.2).ne then some (⟨0, p.1, p.2⟩, setOf t p.1 p.2) else none
def sets (t : Test) : List (Cv × Rg) := (pairs t).filterMap (setAt t)

theorem upto_nil {lo hi : Int} (h : hi < lo) : upto lo hi = [] := by
  have : (hi - lo + 1).toNat = 0 := by omega
  simp [upto, this]
theorem upto_cons {lo hi : Int} (h : lo ≤ hi) : upto lo hi = lo :: upto (lo + 1) hi := by
  have e : (hi - lo + 1).toNat = (hi - (lo + 1) + 1).toNat + 1 := by omega
  unfold upto
  rw [e, List.range_succ_eq_map]
  simp only [List.map_cons, List.map_map, Function.comp_def]
  congr 1
  · simp
  · apply List.map_congr_left
    intro i _
    push_cast
    omega
theorem upto_mem {lo hi x : Int} (h : x ∈ upto lo hi) : lo ≤ x ∧ x ≤ hi := by
  simp only [upto, List.mem_map, List.mem_range] at h
  obtain ⟨i, hi', rfl⟩ := h
  omega
theorem mem_upto {lo hi x : Int} (h : lo ≤ x) (h' : x ≤ hi) : x ∈ upto lo hi := by
  simp only [upto, List.mem_map, List.mem_range]
  exact ⟨(x - lo).toNat, by omega, by omega⟩
theorem upto_len {lo hi : Int} : (upto lo hi).length = (hi - lo + 1).toNat := by simp [upto]

/-- What a valid test's numbers are. -/
structure Tv (t : Test) : Prop where
  n : t.st.length ≤ 12
  a : 0 ≤ t.a.lo ∧ t.a.lo ≤ t.a.hi ∧ t.a.hi ≤ 100000
  b : 0 ≤ t.b.lo ∧ t.b.lo ≤ t.b.hi ∧ t.b.hi ≤ 10000
  c : 0 ≤ t.c.lo ∧ t.c.lo ≤ t.c.hi ∧ t.c.hi ≤ 1000
  bw : t.b.hi - t.b.lo < 40
  cw : t.c.hi - t.c.lo < 40
  s : ∀ s ∈ t.st, (0 ≤ s.q ∧ s.q ≤ 1000) ∧ -2000000000 ≤ s.d.lo ∧ s.d.lo ≤ s.d.hi ∧ s.d.hi ≤ 2000000000
theorem fault_tv {t : Test} (h : fault t = 0) : Tv t := by
  unfold fault at h
  split at h
  · cases h
  rename_i h1
  split at h
  · rename_i h2
    simp only [Bool.and_eq_true, boxOk, Rg.right, decide_eq_true_eq, allB_iff, Step.ok, inn_iff, Rg.drops] at h2
    obtain ⟨⟨h3, h4, h5, h6, h7⟩, h8⟩ := h2
    exact ⟨by omega, h3, h4, h5, h6, h7, fun s hs => by have := h8 s hs; omega⟩
  · cases h
theorem sum_const {α : Type} {k : Nat} : ∀ l : List α, (l.map fun _ => k).sum = l.length * k
  | [] => by simp
  | a :: l => by simp only [List.map_cons, List.sum_cons, List.length_cons, sum_const l, Nat.add_mul]; omega
theorem pairs_len {t : Test} (h : Tv t) : (pairs t).length ≤ 1600 := by
  have h1 := h.bw
  have h2 := h.cw
  have e : (pairs t).length = (upto t.b.lo t.b.hi).length * (upto t.c.lo t.c.hi).length := by
    unfold pairs
    rw [List.length_flatMap]
    simp only [List.length_map, sum_const]
  rw [e, upto_len, upto_len]
  have h3 : (t.b.hi - t.b.lo + 1).toNat ≤ 40 := by omega
  have h4 : (t.c.hi - t.c.lo + 1).toNat ≤ 40 := by omega
  exact Nat.le_trans (Nat.mul_le_mul h3 h4) (by decide)
theorem pairs_mem {t : Test} {p : Int × Int} (h : p ∈ pairs t) : (t.b.lo ≤ p.1 ∧ p.1 ≤ t.b.hi) ∧ t.c.lo ≤ p.2 ∧ p.2 ≤ t.c.hi := by
  simp only [pairs, List.mem_flatMap, List.mem_map] at h
  obtain ⟨b, hb, c, hc, rfl⟩ := h
  exact ⟨upto_mem hb, upto_mem hc⟩

/-- Drawdowns are not too great. -/
theorem drop_bound {a b c q : Int} (ha : 0 ≤ a ∧ a ≤ 100000) (hb : 0 ≤ b ∧ b ≤ 10000) (hc : 0 ≤ c ∧ c ≤ 1000) (hq : 0 ≤ q ∧ q ≤ 1000) :
    (0 ≤ b * q ∧ b * q ≤ 10000000) ∧ (0 ≤ c * q ∧ c * q ≤ 1000000) ∧ (0 ≤ c * q * q ∧ c * q * q ≤ 1000000000) ∧ 0 ≤ Cv.drop ⟨a, b, c⟩ q ∧ Cv.drop ⟨a, b, c⟩ q ≤ 1010100000 := by
  have h1 : b * q ≤ 10000 * 1000 := Int.mul_le_mul hb.2 hq.2 hq.1 (by omega)
  have h2 : 0 ≤ b * q := Int.mul_nonneg hb.1 hq.1
  have h3 : c * q ≤ 1000 * 1000 := Int.mul_le_mul hc.2 hq.2 hq.1 (by omega)
  have h4 : 0 ≤ c * q := Int.mul_nonneg hc.1 hq.1
  have h5 : c * q * q ≤ 1000000 * 1000 := Int.mul_le_mul (by omega) hq.2 hq.1 (by omega)
  have h6 : 0 ≤ c * q * q := Int.mul_nonneg h4 hq.1
  unfold Cv.drop
  dsimp only
  omega
theorem set_bound {t : Test} (h : Tv t) {b c : Int} : t.a.lo ≤ (setOf t b c).lo ∧ (setOf t b c).hi ≤ t.a.hi := by
  have key : ∀ (l : List Rg) (r : Rg), r.lo ≤ (l.foldl meet r).lo ∧ (l.foldl meet r).hi ≤ r.hi := by
    intro l
    induction l with
    | nil => intro r; exact ⟨Int.le_refl _, Int.le_refl _⟩
    | cons x l ih =>
      intro r
      have := ih (meet r x)
      simp only [List.foldl_cons]
      simp only [meet] at this ⊢
      omega
  exact key _ _

/-- The least range with all of some. -/
def spanL : List Rg → Rg
  | [] => ⟨0, 0⟩
  | r :: l => l.foldl span r
theorem span_self (r : Rg) : span r r = r := by cases r; simp [span]
theorem span_fold : ∀ (l : List Rg) (r : Rg), (l.foldl span r).lo ≤ r.lo ∧ r.hi ≤ (l.foldl span r).hi ∧ (∀ x ∈ l, (l.foldl span r).lo ≤ x.lo ∧ x.hi ≤ (l.foldl span r).hi) ∧
    ((l.foldl span r).lo = r.lo ∨ ∃ x ∈ l, (l.foldl span r).lo = x.lo) ∧ ((l.foldl span r).hi = r.hi ∨ ∃ x ∈ l, (l.foldl span r).hi = x.hi)
  | [], r => ⟨Int.le_refl _, Int.le_refl _, by simp, .inl rfl, .inl rfl⟩
  | y :: l, r => by
    obtain ⟨h1, h2, h3, h4, h5⟩ := span_fold l (span r y)
    simp only [List.foldl_cons]
    have e1 : (span r y).lo = min r.lo y.lo := rfl
    have e2 : (span r y).hi = max r.hi y.hi := rfl
    refine ⟨by omega, by omega, fun x hx => ?_, ?_, ?_⟩
    · rcases List.mem_cons.1 hx with rfl | hx
      · omega
      · exact h3 x hx
    · rcases h4 with h | ⟨x, hx, h⟩
      · rw [e1] at h
        rcases Int.le_total r.lo y.lo with g | g
        · exact .inl (by omega)
        · exact .inr ⟨y, by simp, by omega⟩
      · exact .inr ⟨x, by simp [hx], h⟩
    · rcases h5 with h | ⟨x, hx, h⟩
      · rw [e2] at h
        rcases Int.le_total y.hi r.hi with g | g
        · exact .inl (by omega)
        · exact .inr ⟨y, by simp, by omega⟩
      · exact .inr ⟨x, by simp [hx], h⟩
theorem spanL_mem {l : List Rg} {r : Rg} (h : r ∈ l) : (spanL l).lo ≤ r.lo ∧ r.hi ≤ (spanL l).hi := by
  cases l with
  | nil => simp at h
  | cons x l =>
    obtain ⟨h1, h2, h3, _⟩ := span_fold l x
    simp only [spanL]
    rcases List.mem_cons.1 h with rfl | h
    · exact ⟨h1, h2⟩
    · exact h3 r h
theorem spanL_lo {l : List Rg} (h : l ≠ []) : ∃ r ∈ l, (spanL l).lo = r.lo := by
  cases l with
  | nil => exact absurd rfl h
  | cons x l =>
    obtain ⟨_, _, _, h4, _⟩ := span_fold l x
    rcases h4 with h | ⟨y, hy, h⟩
    · exact ⟨x, by simp, h⟩
    · exact ⟨y, by simp [hy], h⟩
theorem spanL_hi {l : List Rg} (h : l ≠ []) : ∃ r ∈ l, (spanL l).hi = r.hi := by
  cases l with
  | nil => exact absurd rfl h
  | cons x l =>
    obtain ⟨_, _, _, _, h5⟩ := span_fold l x
    rcases h5 with h | ⟨y, hy, h⟩
    · exact ⟨x, by simp, h⟩
    · exact ⟨y, by simp [hy], h⟩
theorem spanL_snoc {l : List Rg} (h : l ≠ []) (r : Rg) : spanL (l ++ [r]) = span (spanL l) r := by
  cases l with
  | nil => exact absurd rfl h
  | cons x l => simp [spanL]

def manyOf : List (Cv × Rg) → Int
  | [] => 0
  | x :: l => x.2.hi - x.2.lo + 1 + manyOf l
def aOf (l : List (Cv × Rg)) : Rg := spanL (l.map (·.2))
def bOf (l : List (Cv × Rg)) : Rg := spanL (l.map fun x => ⟨x.1.b, x.1.b⟩)
def cOf (l : List (Cv × Rg)) : Rg := spanL (l.map fun x => ⟨x.1.c, x.1.c⟩)
def shift (q : Int) (x : Cv × Rg) : Rg := ⟨Cv.drop ⟨x.2.lo, x.1.b, x.1.c⟩ q, Cv.drop ⟨x.2.hi, x.1.b, x.1.c⟩ q⟩
def dOf (q : Int) (l : List (Cv × Rg)) : Rg := spanL (l.map (shift q))
theorem manyOf_snoc (x : Cv × Rg) : ∀ l, manyOf (l ++ [x]) = manyOf l + (x.2.hi - x.2.lo + 1)
  | [] => by simp [manyOf]
  | y :: l => by simp only [List.cons_append, manyOf, manyOf_snoc x l]; omega
theorem sets_mem {t : Test} {x : Cv × Rg} (h : x ∈ sets t) : x.1.a = 0 ∧ (x.1.b, x.1.c) ∈ pairs t ∧ x.2 = setOf t x.1.b x.1.c ∧ x.2.lo ≤ x.2.hi := by
  simp only [sets, List.mem_filterMap] at h
  obtain ⟨p, hp, h⟩ := h
  unfold setAt at h
  split at h
  · rename_i hn
    cases h
    refine ⟨rfl, hp, rfl, ?_⟩
    simpa [Rg.ne] using hn
  · cases h
theorem mem_sets {t : Test} {b c : Int} (h : (b, c) ∈ pairs t) (hn : (setOf t b c).lo ≤ (setOf t b c).hi) : (⟨0, b, c⟩, setOf t b c) ∈ sets t := by
  simp only [sets, List.mem_filterMap]
  exact ⟨(b, c), h, by simp [setAt, Rg.ne, hn]⟩

/-! ### The greatest flow that keeps a limit -/

def anti (f : Int → Bool) : Prop := ∀ q q', 0 ≤ q → q ≤ q' → q' ≤ 1000 → f q' = true → f q = true
/-- Is r the last one? -/
structure Last (f : Int → Bool) (r : Int) : Prop where
  lo : -1 ≤ r
  hi : r ≤ 1000
  at_ : 0 ≤ r → f r = true
  next : r < 1000 → f (r + 1) = false
theorem Last.one {f : Int → Bool} (h : anti f) {r s : Int} (hr : Last f r) (hs : Last f s) : r = s := by
  rcases Int.lt_trichotomy r s with g | g | g
  · have h1 := hs.at_ (by have := hr.lo; omega)
    have h2 := h (r + 1) s (by have := hr.lo; omega) (by omega) hs.hi h1
    rw [hr.next (by have := hs.hi; omega)] at h2; cases h2
  · exact g
  · have h1 := hr.at_ (by have := hs.lo; omega)
    have h2 := h (s + 1) r (by have := hs.lo; omega) (by omega) hr.hi h1
    rw [hs.next (by have := hr.hi; omega)] at h2; cases h2
def bs (f : Int → Bool) : Nat → Int → Int → Int
  | 0, lo, _ => lo
  | m + 1, lo, hi => if lo < hi then (if f ((lo + hi + 1) / 2) then bs f m ((lo + hi + 1) / 2) hi else bs f m lo ((lo + hi + 1) / 2 - 1)) else lo
theorem bs_last {f : Int → Bool} (h : anti f) : ∀ (m : Nat) (lo hi : Int), -1 ≤ lo → lo ≤ hi → hi ≤ 1000 → (0 ≤ lo → f lo = true) → (hi < 1000 → f (hi + 1) = false) → hi - lo < 2 ^ m → Last f (bs f m lo hi)
  | 0, lo, hi, h0, h1, h2, h3, h4, h5 => by
    have : hi = lo := by simp at h5; omega
    subst this
    exact ⟨h0, h2, h3, h4⟩
  | m + 1, lo, hi, h0, h1, h2, h3, h4, h5 => by
    have hp : (2 : Int) ^ (m + 1) = 2 * 2 ^ m := by rw [Int.pow_succ]; omega
    rw [hp] at h5
    simp only [bs]
    by_cases hl : lo < hi
    · rw [if_pos hl]
      have e1 : lo < (lo + hi + 1) / 2 := by omega
      have e2 : (lo + hi + 1) / 2 ≤ hi := by omega
      have e3 : hi - (lo + hi + 1) / 2 < 2 ^ m := by omega
      have e4 : (lo + hi + 1) / 2 - 1 - lo < 2 ^ m := by omega
      generalize (lo + hi + 1) / 2 = q at *
      cases hf : f q
      · simp only [Bool.false_eq_true, if_false]
        exact bs_last h m lo (q - 1) h0 (by omega) (by omega) h3 (fun _ => by rw [show q - 1 + 1 = q by omega]; exact hf) e4
      · simp only [if_true]
        exact bs_last h m q hi (by omega) e2 h2 (fun _ => hf) h4 e3
    · rw [if_neg hl]
      have : hi = lo := by omega
      subst this
      exact ⟨h0, h2, h3, h4⟩
theorem shift_mono {t : Test} (h : Tv t) {x : Cv × Rg} (hx : x ∈ sets t) {q q' : Int} (h0 : 0 ≤ q) (hq : q ≤ q') (h1 : q' ≤ 1000) : (shift q x).lo ≤ (shift q' x).lo ∧ (shift q x).hi ≤ (shift q' x).hi := by
  obtain ⟨_, hp, _, _⟩ := sets_mem hx
  have hm := pairs_mem hp
  have hb := h.b
  have hc := h.c
  have e1 : x.1.b * q ≤ x.1.b * q' := Int.mul_le_mul_of_nonneg_left hq (by simp at hm; omega)
  have e2 : x.1.c * q ≤ x.1.c * q' := Int.mul_le_mul_of_nonneg_left hq (by simp at hm; omega)
  have e3 : 0 ≤ x.1.c * q := Int.mul_nonneg (by simp at hm; omega) h0
  have e4 : x.1.c * q * q ≤ x.1.c * q' * q' := Int.mul_le_mul e2 hq h0 (by omega)
  simp only [shift, Cv.drop]
  omega
theorem dOf_mono {t : Test} (h : Tv t) (hne : sets t ≠ []) {q q' : Int} (h0 : 0 ≤ q) (hq : q ≤ q') (h1 : q' ≤ 1000) : (dOf q (sets t)).lo ≤ (dOf q' (sets t)).lo ∧ (dOf q (sets t)).hi ≤ (dOf q' (sets t)).hi := by
  have hne' : ∀ q, (sets t).map (shift q) ≠ [] := fun q h => hne (by simpa using h)
  constructor
  · obtain ⟨r, hr, he⟩ := spanL_lo (hne' q')
    simp only [List.mem_map] at hr
    obtain ⟨x, hx, rfl⟩ := hr
    have h2 := shift_mono h hx h0 hq h1
    have h3 := (spanL_mem (l := (sets t).map (shift q)) (List.mem_map_of_mem hx)).1
    unfold dOf
    omega
  · obtain ⟨r, hr, he⟩ := spanL_hi (hne' q)
    simp only [List.mem_map] at hr
    obtain ⟨x, hx, rfl⟩ := hr
    have h2 := shift_mono h hx h0 hq h1
    have h3 := (spanL_mem (l := (sets t).map (shift q')) (List.mem_map_of_mem hx)).2
    unfold dOf
    omega
def keepHi (t : Test) (limit q : Int) : Bool := decide ((dOf q (sets t)).hi ≤ limit)
def keepLo (t : Test) (limit q : Int) : Bool := decide ((dOf q (sets t)).lo ≤ limit)
theorem keepHi_anti {t : Test} (h : Tv t) (hne : sets t ≠ []) (limit : Int) : anti (keepHi t limit) := by
  intro q q' h0 hq h1 hk
  have := dOf_mono h hne h0 hq h1
  simp only [keepHi, decide_eq_true_eq] at hk ⊢
  omega
theorem keepLo_anti {t : Test} (h : Tv t) (hne : sets t ≠ []) (limit : Int) : anti (keepLo t limit) := by
  intro q q' h0 hq h1 hk
  have := dOf_mono h hne h0 hq h1
  simp only [keepLo, decide_eq_true_eq] at hk ⊢
  omega
end Go.Trial
