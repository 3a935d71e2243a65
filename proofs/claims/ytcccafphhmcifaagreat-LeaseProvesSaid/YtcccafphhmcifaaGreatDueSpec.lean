/-
  Layer 11 in plain Lean: concessions, what is valid, what is due. No program in sight.
-/
import Derived.Test.YtcccafphhmcifaaGreatLeaseSpec
set_option linter.unusedVariables false
set_option linter.unusedSimpArgs false
namespace Go.Lease
open Go Go.Abs

/-- A row of numbers as one cell. -/
@[simp] def rowE (r : List Int) : List D := [.lst r.length (r.flatMap intE)]
structure Cn where
  h : Int
  l : List (List Int)
def sumI : List Int → Int
  | [] => 0
  | x :: l => x + sumI l
def rowOk (h : Int) (r : List Int) : Bool := decide ((r.length : Int) = h) && (allB r (fun n => inn n 0 1000) && decide (sumI r ≤ 1000))
def cnOk (c : Cn) : Bool := inn c.h 1 8 && (inn c.l.length 1 20 && allB c.l (rowOk c.h))
def massOk (c : Cn) (ms : List Int) : Bool := decide (ms.length = c.l.length) && allB ms (fun n => inn n 0 1000000000000)
/-- Masses by the shares of one holder. -/
def dot : List Int → List (List Int) → Nat → Int
  | m :: ms, r :: rs, h => m * r.getD h 0 + dot ms rs h
  | _, _, _ => 0
def dueL (c : Cn) (ms : List Int) : List Int := (List.range c.h.toNat).map fun h => dot ms c.l h / 1000
def dueR (c : Cn) (ms : List Int) : Int := sumI ms - sumI (dueL c ms)

theorem sumI_app : ∀ (a b : List Int), sumI (a ++ b) = sumI a + sumI b
  | [], b => by simp [sumI]
  | x :: a, b => by simp only [List.cons_append, sumI, sumI_app a b]; omega
theorem sumI_bd {lo hi : Int} : ∀ {l : List Int}, (∀ x ∈ l, lo ≤ x ∧ x ≤ hi) → lo * l.length ≤ sumI l ∧ sumI l ≤ hi * l.length
  | [], _ => by simp [sumI]
  | x :: l, h => by
    have ih := sumI_bd (l := l) fun y hy => h y (by simp [hy])
    have hx := h x (by simp)
    simp only [sumI, List.length_cons, Int.natCast_add, Int.mul_add]
    omega
theorem rowOk_iff {h : Int} {r : List Int} : rowOk h r = true ↔ (r.length : Int) = h ∧ (∀ n ∈ r, 0 ≤ n ∧ n ≤ 1000) ∧ sumI r ≤ 1000 := by
  simp only [rowOk, Bool.and_eq_true, decide_eq_true_eq, allB_iff, inn_iff]
theorem cnOk_iff {c : Cn} : cnOk c = true ↔ (1 ≤ c.h ∧ c.h ≤ 8) ∧ (1 ≤ (c.l.length : Int) ∧ (c.l.length : Int) ≤ 20) ∧ ∀ r ∈ c.l, rowOk c.h r = true := by
  simp only [cnOk, Bool.and_eq_true, allB_iff, inn_iff]
theorem massOk_iff {c : Cn} {ms : List Int} : massOk c ms = true ↔ ms.length = c.l.length ∧ ∀ n ∈ ms, 0 ≤ n ∧ n ≤ 1000000000000 := by
  simp only [massOk, Bool.and_eq_true, decide_eq_true_eq, allB_iff, inn_iff]
theorem share_bd {h : Int} {r : List Int} (hr : rowOk h r = true) (k : Nat) : 0 ≤ r.getD k 0 ∧ r.getD k 0 ≤ 1000 := by
  have h1 := rowOk_iff.1 hr
  rw [List.getD_eq_getElem?_getD]
  cases hk : r[k]? with
  | none => simp
  | some x => exact h1.2.1 x (List.mem_of_getElem? hk)
/-- In thousands and what is above them. -/
def dotQ : List Int → List (List Int) → Nat → Int
  | m :: ms, r :: rs, h => m / 1000 * r.getD h 0 + dotQ ms rs h
  | _, _, _ => 0
def dotR : List Int → List (List Int) → Nat → Int
  | m :: ms, r :: rs, h => m % 1000 * r.getD h 0 + dotR ms rs h
  | _, _, _ => 0
theorem dot_split : ∀ (ms : List Int) (rs : List (List Int)) (h : Nat), dot ms rs h = 1000 * dotQ ms rs h + dotR ms rs h
  | [], _, _ => by simp [dot, dotQ, dotR]
  | _ :: _, [], _ => by simp [dot, dotQ, dotR]
  | m :: ms, r :: rs, h => by
    have h1 : m * r.getD h 0 = 1000 * (m / 1000 * r.getD h 0) + m % 1000 * r.getD h 0 := by
      have : m = 1000 * (m / 1000) + m % 1000 := by omega
      conv => lhs; rw [this]
      rw [Int.add_mul, Int.mul_assoc]
    simp only [dot, dotQ, dotR, dot_split ms rs h, h1]
    omega
theorem dot_div (ms : List Int) (rs : List (List Int)) (h : Nat) : dot ms rs h / 1000 = dotQ ms rs h + dotR ms rs h / 1000 := by
  rw [dot_split]; omega
theorem mulS {m s M : Int} (hm : 0 ≤ m ∧ m ≤ M) (hs : 0 ≤ s ∧ s ≤ 1000) : 0 ≤ m * s ∧ m * s ≤ M * 1000 := by
  refine ⟨Int.mul_nonneg hm.1 hs.1, ?_⟩
  exact Int.le_trans (Int.mul_le_mul_of_nonneg_left hs.2 hm.1) (Int.mul_le_mul_of_nonneg_right hm.2 (by omega))
theorem dotR_bd {hh : Int} : ∀ {ms : List Int} {rs : List (List Int)} {h : Nat}, (∀ r ∈ rs, rowOk hh r = true) → (∀ n ∈ ms, 0 ≤ n ∧ n ≤ 1000000000000) → 0 ≤ dotR ms rs h ∧ dotR ms rs h ≤ 1000000 * ms.length
  | [], _, _, _, _ => by simp [dotR]
  | _ :: ms, [], _, _, _ => by simp only [dotR, List.length_cons]; omega
  | m :: ms, r :: rs, h, hr, hm => by
    have ih := dotR_bd (h := h) (fun r h => hr r (by simp [h])) (fun n h => hm n (by simp [h])) (ms := ms) (rs := rs)
    have h1 := mulS (m := m % 1000) (M := 1000) (by omega) (share_bd (hr r (by simp)) h)
    simp only [dotR, List.length_cons]
    omega
theorem dotQ_bd {hh : Int} : ∀ {ms : List Int} {rs : List (List Int)} {h : Nat}, (∀ r ∈ rs, rowOk hh r = true) → (∀ n ∈ ms, 0 ≤ n ∧ n ≤ 1000000000000) → 0 ≤ dotQ ms rs h ∧ dotQ ms rs h ≤ 1000000000000 * ms.length
  | [], _, _, _, _ => by simp [dotQ]
  | _ :: ms, [], _, _, _ => by simp only [dotQ, List.length_cons]; omega
  | m :: ms, r :: rs, h, hr, hm => by
    have ih := dotQ_bd (h := h) (fun r h => hr r (by simp [h])) (fun n h => hm n (by simp [h])) (ms := ms) (rs := rs)
    have hm1 := hm m (by simp)
    have h1 := mulS (m := m / 1000) (M := 1000000000) (by omega) (share_bd (hr r (by simp)) h)
    simp only [dotQ, List.length_cons]
    omega
theorem dot_bd {hh : Int} {ms : List Int} {rs : List (List Int)} {h : Nat} (hr : ∀ r ∈ rs, rowOk hh r = true) (hm : ∀ n ∈ ms, 0 ≤ n ∧ n ≤ 1000000000000) : 0 ≤ dot ms rs h ∧ dot ms rs h ≤ 1000001000000000 * ms.length := by
  have h1 := dotQ_bd (h := h) hr hm
  have h2 := dotR_bd (h := h) hr hm
  rw [dot_split]
  omega
/-- The shares of all holders of a tract, up to some. -/
theorem dots_le {hh : Int} : ∀ {ms : List Int} {rs : List (List Int)} (n : Nat), (∀ r ∈ rs, rowOk hh r = true) → (∀ m ∈ ms, 0 ≤ m ∧ m ≤ 1000000000000) → ms.length = rs.length →
    sumI ((List.range n).map fun h => dot ms rs h) ≤ 1000 * sumI ms
  | [], [], n, _, _, _ => by
    have : ∀ n, sumI ((List.range n).map fun h => dot [] [] h) = 0 := fun n => by
      induction n with
      | zero => rfl
      | succ n ih => rw [List.range_succ, List.map_append, sumI_app, ih]; simp [sumI, dot]
    rw [this]; simp [sumI]
  | m :: ms, r :: rs, n, hr, hm, hl => by
    have ih := dots_le (ms := ms) (rs := rs) n (fun r h => hr r (by simp [h])) (fun n h => hm n (by simp [h])) (by simpa using hl)
    have h1 := rowOk_iff.1 (hr r (by simp))
    have hm1 := hm m (by simp)
    have key : ∀ n, sumI ((List.range n).map fun h => dot (m :: ms) (r :: rs) h) = m * sumI (r.take n) + sumI ((List.range n).map fun h => dot ms rs h) := fun n => by
      induction n with
      | zero => simp [sumI]
      | succ n ih =>
        rw [List.range_succ, List.map_append, List.map_append, sumI_app, sumI_app, ih, List.take_add_one, sumI_app, Int.mul_add]
        have : sumI r[n]?.toList = r.getD n 0 := by
          rw [List.getD_eq_getElem?_getD]
          cases r[n]? <;> simp [sumI]
        rw [this]
        simp only [List.map_cons, List.map_nil, sumI, dot]
        omega
    have h2 : sumI (r.take n) ≤ sumI r := by
      have h3 : sumI r = sumI (r.take n) + sumI (r.drop n) := by rw [← sumI_app, List.take_append_drop]
      have h4 := (sumI_bd (lo := 0) (hi := 1000) (l := r.drop n) fun x hx => h1.2.1 x (List.mem_of_mem_drop hx)).1
      omega
    have h5 := Int.mul_le_mul_of_nonneg_left (show sumI (r.take n) ≤ 1000 by omega) hm1.1
    rw [key, sumI]
    omega
theorem divs_le (f : Nat → Int) : ∀ n, 1000 * sumI ((List.range n).map fun h => f h / 1000) ≤ sumI ((List.range n).map f) ∧ sumI ((List.range n).map f) ≤ 1000 * sumI ((List.range n).map fun h => f h / 1000) + 999 * n
  | 0 => by simp [sumI]
  | n + 1 => by
    have ih := divs_le f n
    rw [List.range_succ, List.map_append, List.map_append, sumI_app, sumI_app]
    simp only [List.map_cons, List.map_nil, sumI]
    omega
/-- The rest is no less than nothing. -/
theorem dueR_nonneg {c : Cn} {ms : List Int} (hc : cnOk c = true) (hm : massOk c ms = true) : 0 ≤ dueR c ms := by
  have h1 := cnOk_iff.1 hc
  have h2 := massOk_iff.1 hm
  have h3 := dots_le (ms := ms) (rs := c.l) c.h.toNat h1.2.2 h2.2 h2.1
  have h4 := (divs_le (fun h => dot ms c.l h) c.h.toNat).1
  unfold dueR dueL
  omega
theorem dueL_len {c : Cn} {ms : List Int} : (dueL c ms).length = c.h.toNat := by simp [dueL]
theorem dueL_bd {c : Cn} {ms : List Int} (hc : cnOk c = true) (hm : massOk c ms = true) : ∀ x ∈ dueL c ms, 0 ≤ x ∧ x ≤ 20000020000000 := by
  intro x hx
  have h1 := cnOk_iff.1 hc
  have h2 := massOk_iff.1 hm
  simp only [dueL, List.mem_map] at hx
  obtain ⟨h, _, rfl⟩ := hx
  have := dot_bd (h := h) h1.2.2 h2.2
  omega
/-- Two lists of masses together. -/
def bothI (a b : List Int) : List Int := a.zipWith (· + ·) b
theorem dot_both : ∀ (a b : List Int) (rs : List (List Int)) (h : Nat), a.length = rs.length → b.length = rs.length → dot (bothI a b) rs h = dot a rs h + dot b rs h
  | [], [], [], h, _, _ => by simp [bothI, dot]
  | x :: a, y :: b, r :: rs, h, h1, h2 => by
    have ih := dot_both a b rs h (by simpa using h1) (by simpa using h2)
    simp only [bothI, List.zipWith_cons_cons, dot] at ih ⊢
    rw [ih, Int.add_mul]
    omega
  | _ :: _, _, [], h, h1, _ => by simp at h1
  | [], _, _ :: _, h, h1, _ => by simp at h1
  | _, [], _ :: _, h, _, h2 => by simp at h2
  | _, _ :: _, [], h, _, h2 => by simp at h2
theorem sum_both : ∀ (a b : List Int), a.length = b.length → sumI (bothI a b) = sumI a + sumI b
  | [], [], _ => by simp [bothI, sumI]
  | x :: a, y :: b, h => by
    have ih := sum_both a b (by simpa using h)
    simp only [bothI, List.zipWith_cons_cons, sumI] at ih ⊢
    omega
end Go.Lease
