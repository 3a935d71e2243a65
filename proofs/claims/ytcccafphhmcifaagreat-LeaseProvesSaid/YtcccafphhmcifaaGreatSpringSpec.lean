/-
  Layer 11 in plain Lean: springs, what pulls at them, the room. No program in sight.
-/
import Derived.Test.YtcccafphhmcifaaGreatDueSpec
set_option linter.unusedVariables false
set_option linter.unusedSimpArgs false
namespace Go.Lease
open Go Go.Abs

structure Rg where
  lo : Int
  hi : Int
@[simp] theorem Rg.eta (r : Rg) : Rg.mk r.lo r.hi = r := rfl
@[simp] def Rg.enc (r : Rg) : List D := [.int .i64 r.lo, .int .i64 r.hi]
structure Sp where
  flow : Int
  least : Int
  l : List Rg
@[simp] def Sp.enc (s : Sp) : List D := [.int .i64 s.flow, .int .i64 s.least, .lst s.l.length (s.l.flatMap Rg.enc)]
def rgOk (r : Rg) : Bool := decide (0 ≤ r.lo) && (decide (r.lo ≤ r.hi) && decide (r.hi ≤ 1000))
def spOk (n : Nat) (s : Sp) : Bool := inn s.flow 0 1000000000 && (inn s.least 0 1000000000 && (decide (s.l.length = n) && allB s.l rgOk))
def wid (l : List Sp) : Nat := (l.headD ⟨0, 0, []⟩).l.length
def spsOk (l : List Sp) : Bool := inn l.length 1 10 && (inn (wid l) 1 20 && allB l (spOk (wid l)))
def tkOk (l : List Sp) (ts : List Int) : Bool := decide (ts.length = wid l) && allB ts (fun n => inn n 0 1000000)
theorem rgOk_iff {r : Rg} : rgOk r = true ↔ 0 ≤ r.lo ∧ r.lo ≤ r.hi ∧ r.hi ≤ 1000 := by
  simp only [rgOk, Bool.and_eq_true, decide_eq_true_eq]
theorem spOk_iff {n : Nat} {s : Sp} : spOk n s = true ↔ (0 ≤ s.flow ∧ s.flow ≤ 1000000000) ∧ (0 ≤ s.least ∧ s.least ≤ 1000000000) ∧ s.l.length = n ∧ ∀ r ∈ s.l, 0 ≤ r.lo ∧ r.lo ≤ r.hi ∧ r.hi ≤ 1000 := by
  simp only [spOk, Bool.and_eq_true, inn_iff, decide_eq_true_eq, allB_iff, rgOk_iff]
theorem spsOk_iff {l : List Sp} : spsOk l = true ↔ (1 ≤ (l.length : Int) ∧ (l.length : Int) ≤ 10) ∧ (1 ≤ (wid l : Int) ∧ (wid l : Int) ≤ 20) ∧ ∀ s ∈ l, spOk (wid l) s = true := by
  simp only [spsOk, Bool.and_eq_true, inn_iff, allB_iff]
theorem tkOk_iff {l : List Sp} {ts : List Int} : tkOk l ts = true ↔ ts.length = wid l ∧ ∀ n ∈ ts, 0 ≤ n ∧ n ≤ 1000000 := by
  simp only [tkOk, Bool.and_eq_true, decide_eq_true_eq, allB_iff, inn_iff]
/-- The least, the greatest flow, in thousandths, after some takes. -/
def loF : List Int → List Rg → Int → Int
  | t :: ts, r :: rs, a => loF ts rs (a - t * r.hi)
  | _, _, a => a
def hiF : List Int → List Rg → Int → Int
  | t :: ts, r :: rs, a => hiF ts rs (a - t * r.lo)
  | _, _, a => a
def behLo (s : Sp) (ts : List Int) : Int := loF ts s.l (1000 * s.flow)
def behHi (s : Sp) (ts : List Int) : Int := hiF ts s.l (1000 * s.flow)
def beh (ts : List Int) (s : Sp) : Rg := ⟨behLo s ts, behHi s ts⟩
theorem mulT {t r : Int} (ht : 0 ≤ t ∧ t ≤ 1000000) (hr : 0 ≤ r ∧ r ≤ 1000) : 0 ≤ t * r ∧ t * r ≤ 1000000000 := by
  have := mulS (m := t) (s := r) ht hr
  omega
theorem loF_bd : ∀ (ts : List Int) (rs : List Rg) (a : Int), (∀ t ∈ ts, 0 ≤ t ∧ t ≤ 1000000) → (∀ r ∈ rs, 0 ≤ r.lo ∧ r.lo ≤ r.hi ∧ r.hi ≤ 1000) → a - 1000000000 * ts.length ≤ loF ts rs a ∧ loF ts rs a ≤ a
  | [], rs, a, _, _ => by cases rs <;> simp [loF]
  | t :: ts, [], a, _, _ => by simp only [loF, List.length_cons]; omega
  | t :: ts, r :: rs, a, ht, hr => by
    have h1 := hr r (by simp)
    have h2 := mulT (ht t (by simp)) (r := r.hi) (by omega)
    have ih := loF_bd ts rs (a - t * r.hi) (fun x hx => ht x (by simp [hx])) (fun x hx => hr x (by simp [hx]))
    simp only [loF, List.length_cons]
    omega
theorem hiF_bd : ∀ (ts : List Int) (rs : List Rg) (a : Int), (∀ t ∈ ts, 0 ≤ t ∧ t ≤ 1000000) → (∀ r ∈ rs, 0 ≤ r.lo ∧ r.lo ≤ r.hi ∧ r.hi ≤ 1000) → a - 1000000000 * ts.length ≤ hiF ts rs a ∧ hiF ts rs a ≤ a
  | [], rs, a, _, _ => by cases rs <;> simp [hiF]
  | t :: ts, [], a, _, _ => by simp only [hiF, List.length_cons]; omega
  | t :: ts, r :: rs, a, ht, hr => by
    have h1 := hr r (by simp)
    have h2 := mulT (ht t (by simp)) (r := r.lo) (by omega)
    have ih := hiF_bd ts rs (a - t * r.lo) (fun x hx => ht x (by simp [hx])) (fun x hx => hr x (by simp [hx]))
    simp only [hiF, List.length_cons]
    omega
theorem loF_add : ∀ (ts : List Int) (rs : List Rg) (a b : Int), loF ts rs (a + b) = loF ts rs a + b
  | [], rs, a, b => by cases rs <;> simp [loF]
  | t :: ts, [], a, b => by simp [loF]
  | t :: ts, r :: rs, a, b => by
    simp only [loF]
    rw [← loF_add ts rs]
    congr 1
    omega
/-- More taken at one tract. -/
theorem loF_set : ∀ (ts : List Int) (rs : List Rg) (i : Nat) (x d : Int) (r : Rg) (a : Int), ts[i]? = some x → rs[i]? = some r → loF (ts.set i (x + d)) rs a = loF ts rs a - d * r.hi
  | [], _, i, x, d, r, a, h, _ => by simp at h
  | _ :: _, [], i, x, d, r, a, _, h => by simp at h
  | t :: ts, q :: rs, 0, x, d, r, a, h1, h2 => by
    simp at h1 h2
    subst h1 h2
    simp only [List.set_cons_zero, loF, Int.add_mul]
    rw [show a - (t * q.hi + d * q.hi) = (a - t * q.hi) + -(d * q.hi) by omega, loF_add]
    omega
  | t :: ts, q :: rs, i + 1, x, d, r, a, h1, h2 => by
    simp only [List.set_cons_succ, loF]
    exact loF_set ts rs i x d r _ (by simpa using h1) (by simpa using h2)
/-- Those of a list with a property: their places, from some on. -/
def whichF (p : Sp → Bool) : Nat → List Sp → List Int
  | _, [] => []
  | i, s :: l => if p s then (i : Int) :: whichF p (i + 1) l else whichF p (i + 1) l
def harmP (ts : List Int) (s : Sp) : Bool := decide (behLo s ts < 1000 * s.least)
def harmS (ts : List Int) (s : Sp) : Bool := decide (behHi s ts < 1000 * s.least)
theorem which_app (p : Sp → Bool) (s : Sp) : ∀ (l : List Sp) (i : Nat), whichF p i (l ++ [s]) = whichF p i l ++ (if p s then [((i + l.length : Nat) : Int)] else [])
  | [], i => by simp only [List.nil_append, whichF, List.length_nil, Nat.add_zero]
  | a :: l, i => by
    have ih := which_app p s l (i + 1)
    simp only [List.cons_append, whichF, ih, List.length_cons]
    rw [show i + 1 + l.length = i + (l.length + 1) by omega]
    split <;> rfl
theorem which_mem {p : Sp → Bool} {x : Int} : ∀ {l : List Sp} {i : Nat}, x ∈ whichF p i l ↔ ∃ j s, l[j]? = some s ∧ p s = true ∧ x = ((i + j : Nat) : Int)
  | [], i => by simp [whichF]
  | a :: l, i => by
    have ih := which_mem (p := p) (x := x) (l := l) (i := i + 1)
    have key : (∃ j s, (a :: l)[j]? = some s ∧ p s = true ∧ x = ((i + j : Nat) : Int)) ↔ (p a = true ∧ x = (i : Int)) ∨ ∃ j s, l[j]? = some s ∧ p s = true ∧ x = ((i + 1 + j : Nat) : Int) := by
      constructor
      · rintro ⟨j, s, h1, h2, h3⟩
        cases j with
        | zero => simp at h1; subst h1; exact .inl ⟨h2, by simpa using h3⟩
        | succ j => exact .inr ⟨j, s, by simpa using h1, h2, by rw [h3]; congr 1; omega⟩
      · rintro (⟨h1, h2⟩ | ⟨j, s, h1, h2, h3⟩)
        · exact ⟨0, a, by simp, h1, by simpa using h2⟩
        · exact ⟨j + 1, s, by simpa using h1, h2, by rw [h3]; congr 1; omega⟩
    rw [key, whichF]
    split
    · rename_i h
      rw [List.mem_cons, ih]
      constructor
      · rintro (h1 | h1)
        · exact .inl ⟨h, h1⟩
        · exact .inr h1
      · rintro (⟨_, h1⟩ | h1)
        · exact .inl h1
        · exact .inr h1
    · rename_i h
      rw [ih]
      constructor
      · exact .inr
      · rintro (⟨h1, _⟩ | h1)
        · exact absurd h1 h
        · exact h1
theorem which_nil {p : Sp → Bool} {l : List Sp} {i : Nat} : whichF p i l = [] ↔ ∀ s ∈ l, p s = false := by
  constructor
  · intro h s hs
    cases hp : p s
    · rfl
    · obtain ⟨j, hj⟩ := List.getElem?_of_mem hs
      have : ((i + j : Nat) : Int) ∈ whichF p i l := which_mem.2 ⟨j, s, hj, hp, rfl⟩
      rw [h] at this
      simp at this
  · intro h
    cases hw : whichF p i l with
    | nil => rfl
    | cons x r =>
      have : x ∈ whichF p i l := by rw [hw]; simp
      obtain ⟨j, s, h1, h2, _⟩ := which_mem.1 this
      rw [h s (List.mem_of_getElem? h1)] at h2
      cases h2
/-- How much more may be taken. -/
def roomF (ts : List Int) (k : Nat) : List Sp → Int → Int
  | [], a => a
  | s :: l, a => roomF ts k l (if 0 < (s.l.getD k ⟨0, 0⟩).hi then min a ((behLo s ts - 1000 * s.least) / (s.l.getD k ⟨0, 0⟩).hi) else a)
theorem roomF_le {ts : List Int} {k : Nat} : ∀ (l : List Sp) (a : Int), roomF ts k l a ≤ a ∧ ∀ s ∈ l, 0 < (s.l.getD k ⟨0, 0⟩).hi → roomF ts k l a ≤ (behLo s ts - 1000 * s.least) / (s.l.getD k ⟨0, 0⟩).hi
  | [], a => by simp [roomF]
  | s :: l, a => by
    have ih := roomF_le (ts := ts) (k := k) l (if 0 < (s.l.getD k ⟨0, 0⟩).hi then min a ((behLo s ts - 1000 * s.least) / (s.l.getD k ⟨0, 0⟩).hi) else a)
    simp only [roomF]
    refine ⟨Int.le_trans ih.1 (by split <;> omega), fun x hx hp => ?_⟩
    rcases List.mem_cons.1 hx with rfl | hx
    · refine Int.le_trans ih.1 ?_
      rw [if_pos hp]
      omega
    · exact ih.2 x hx hp
theorem roomF_is {ts : List Int} {k : Nat} : ∀ (l : List Sp) (a : Int), roomF ts k l a = a ∨ ∃ s ∈ l, 0 < (s.l.getD k ⟨0, 0⟩).hi ∧ roomF ts k l a = (behLo s ts - 1000 * s.least) / (s.l.getD k ⟨0, 0⟩).hi
  | [], a => .inl rfl
  | s :: l, a => by
    have ih := roomF_is (ts := ts) (k := k) l (if 0 < (s.l.getD k ⟨0, 0⟩).hi then min a ((behLo s ts - 1000 * s.least) / (s.l.getD k ⟨0, 0⟩).hi) else a)
    simp only [roomF]
    rcases ih with h | ⟨x, h1, h2, h3⟩
    · rw [h]
      split
      · rename_i hp
        rcases Int.le_total a ((behLo s ts - 1000 * s.least) / (s.l.getD k ⟨0, 0⟩).hi) with h4 | h4
        · left; omega
        · right; exact ⟨s, by simp, hp, by omega⟩
      · exact .inl rfl
    · exact .inr ⟨x, by simp [h1], h2, h3⟩
/-- A flow of pulls within their ranges. -/
def flowF : List Int → List Int → Int → Int
  | t :: ts, q :: qs, a => flowF ts qs (a - t * q)
  | _, _, a => a
theorem flow_in : ∀ (ts : List Int) (rs : List Rg) (qs : List Int) (a b c : Int), (∀ t ∈ ts, 0 ≤ t) → ts.length = rs.length → qs.length = rs.length → (∀ (i : Nat) (r : Rg) (q : Int), rs[i]? = some r → qs[i]? = some q → r.lo ≤ q ∧ q ≤ r.hi) → a ≤ b → b ≤ c →
    loF ts rs a ≤ flowF ts qs b ∧ flowF ts qs b ≤ hiF ts rs c
  | [], [], [], a, b, c, _, _, _, _, h1, h2 => by simp [loF, flowF, hiF, h1, h2]
  | t :: ts, r :: rs, q :: qs, a, b, c, ht, hl, hq, h, h1, h2 => by
    have h3 := h 0 r q rfl rfl
    have h4 := ht t (by simp)
    have h5 := Int.mul_le_mul_of_nonneg_left h3.1 h4
    have h6 := Int.mul_le_mul_of_nonneg_left h3.2 h4
    simp only [loF, flowF, hiF]
    exact flow_in ts rs qs _ _ _ (fun x hx => ht x (by simp [hx])) (by simpa using hl) (by simpa using hq) (fun i r q hr hq => h (i + 1) r q (by simpa using hr) (by simpa using hq)) (by omega) (by omega)
  | [], _ :: _, _, _, _, _, _, hl, _, _, _, _ => by simp at hl
  | _ :: _, [], _, _, _, _, _, hl, _, _, _, _ => by simp at hl
  | _, [], _ :: _, _, _, _, _, _, hq, _, _, _ => by simp at hq
  | _, _ :: _, [], _, _, _, _, _, hq, _, _, _ => by simp at hq
end Go.Lease
