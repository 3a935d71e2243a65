/-
  Layer 11 in plain Lean: programmes, the least cost, ladders. No program in sight.
-/
import Derived.Test.YtcccafphhmcifaaGreatLeaseSpec
import Derived.Test.YtcccafphhmcifaaGreatBase2
set_option linter.unusedVariables false
set_option linter.unusedSimpArgs false
namespace Go.Lease
open Go Go.Abs

structure Yr where
  need : Int
  price : Int
@[simp] theorem Yr.eta (y : Yr) : Yr.mk y.need y.price = y := rfl
@[simp] def Yr.enc (y : Yr) : List D := [.int .i64 y.need, .int .i64 y.price]
structure Pg where
  start : Int
  gain : Int
  keep : Int
  most : Int
  l : List Yr
@[simp] def Pg.enc (p : Pg) : List D := [.int .i64 p.start, .int .i64 p.gain, .int .i64 p.keep, .int .i64 p.most, .lst p.l.length (p.l.flatMap Yr.enc)]
structure Rn where
  u : Int
  c : Int
@[simp] theorem Rn.eta (r : Rn) : Rn.mk r.u r.c = r := rfl
@[simp] def Rn.enc (r : Rn) : List D := [.int .i64 r.u, .int .i64 r.c]
abbrev never : Int := 1000000000000
abbrev held : Int := 100000000

def yrOk (y : Yr) : Bool := inn y.need 0 30000000 && inn y.price 0 1000000
def pgOk (p : Pg) : Bool := inn p.start 0 1000000 && (inn p.gain 1 1000000 && (inn p.keep 0 1000 && (inn p.most 0 3 && (inn p.l.length 1 8 && allB p.l yrOk))))
theorem yrOk_iff {y : Yr} : yrOk y = true ↔ (0 ≤ y.need ∧ y.need ≤ 30000000) ∧ (0 ≤ y.price ∧ y.price ≤ 1000000) := by
  simp only [yrOk, Bool.and_eq_true, inn_iff]
theorem pgOk_iff {p : Pg} : pgOk p = true ↔ (0 ≤ p.start ∧ p.start ≤ 1000000) ∧ (1 ≤ p.gain ∧ p.gain ≤ 1000000) ∧ (0 ≤ p.keep ∧ p.keep ≤ 1000) ∧ (0 ≤ p.most ∧ p.most ≤ 3) ∧ (1 ≤ (p.l.length : Int) ∧ (p.l.length : Int) ≤ 8) ∧ ∀ y ∈ p.l, yrOk y = true := by
  simp only [pgOk, Bool.and_eq_true, inn_iff, allB_iff]

/-- The capacity of the next year. -/
def aft (p : Pg) (c k : Int) : Int := (c + k * p.gain) * p.keep / 1000
/-- One number of wells tried. -/
def tryK (p : Pg) (y : Yr) (g : Int → Int) (c : Int) (best k : Int) : Int := if y.need ≤ c + k * p.gain then min best (k * y.price + g (aft p c k)) else best
/-- The least of a year, k and more wells tried. -/
def leastK (p : Pg) (y : Yr) (g : Int → Int) (c : Int) : Nat → Int → Int → Int
  | 0, _, best => best
  | n + 1, k, best => leastK p y g c n (k + 1) (tryK p y g c best k)
def leastW (p : Pg) (y : Yr) (g : Int → Int) (c : Int) : Int := leastK p y g c (p.most.toNat + 1) 0 never
def leastF (p : Pg) : List Yr → Int → Int
  | [], _ => 0
  | y :: ys, c => leastW p y (leastF p ys) c

theorem leastK_le {p : Pg} {y : Yr} {g : Int → Int} {c : Int} : ∀ (n : Nat) (k best : Int), leastK p y g c n k best ≤ best
  | 0, _, _ => Int.le_refl _
  | n + 1, k, best => by
    have := leastK_le (p := p) (y := y) (g := g) (c := c) n (k + 1) (tryK p y g c best k)
    have h2 : tryK p y g c best k ≤ best := by unfold tryK; split <;> omega
    exact Int.le_trans this h2
/-- Each number that meets the need is no better. -/
theorem leastK_at {p : Pg} {y : Yr} {g : Int → Int} {c : Int} : ∀ (n : Nat) (k best j : Int), k ≤ j → j < k + n → y.need ≤ c + j * p.gain → leastK p y g c n k best ≤ j * y.price + g (aft p c j)
  | 0, k, best, j, h1, h2, _ => by omega
  | n + 1, k, best, j, h1, h2, h3 => by
    rw [leastK]
    by_cases hj : j = k
    · subst hj
      refine Int.le_trans (leastK_le ..) ?_
      unfold tryK
      rw [if_pos h3]
      omega
    · exact leastK_at n (k + 1) _ j (by omega) (by omega) h3
/-- What is least is the first guess, or that of a number. -/
theorem leastK_is {p : Pg} {y : Yr} {g : Int → Int} {c : Int} : ∀ (n : Nat) (k best : Int), leastK p y g c n k best = best ∨ ∃ j, k ≤ j ∧ j < k + n ∧ y.need ≤ c + j * p.gain ∧ leastK p y g c n k best = j * y.price + g (aft p c j)
  | 0, _, _ => .inl rfl
  | n + 1, k, best => by
    rw [leastK]
    rcases leastK_is (p := p) (y := y) (g := g) (c := c) n (k + 1) (tryK p y g c best k) with h | ⟨j, h1, h2, h3, h4⟩
    · rw [h]
      unfold tryK
      split
      · rename_i hn
        rcases Int.le_total best (k * y.price + g (aft p c k)) with hb | hb
        · left; omega
        · right; exact ⟨k, by omega, by omega, hn, by omega⟩
      · exact .inl rfl
    · exact .inr ⟨j, by omega, by omega, h3, h4⟩
theorem leastW_le {p : Pg} {y : Yr} {g : Int → Int} {c : Int} : leastW p y g c ≤ never := leastK_le ..
theorem leastW_at {p : Pg} {y : Yr} {g : Int → Int} {c j : Int} (h0 : 0 ≤ j) (h1 : j ≤ p.most) (h2 : y.need ≤ c + j * p.gain) : leastW p y g c ≤ j * y.price + g (aft p c j) :=
  leastK_at _ _ _ _ h0 (by omega) h2
theorem leastW_is {p : Pg} {y : Yr} {g : Int → Int} {c : Int} (hm : 0 ≤ p.most) : leastW p y g c = never ∨ ∃ j, 0 ≤ j ∧ j ≤ p.most ∧ y.need ≤ c + j * p.gain ∧ leastW p y g c = j * y.price + g (aft p c j) := by
  rcases leastK_is (p := p) (y := y) (g := g) (c := c) (p.most.toNat + 1) 0 never with h | ⟨j, h1, h2, h3, h4⟩
  · exact .inl h
  · exact .inr ⟨j, h1, by omega, h3, h4⟩
/-- The same where the numbers that meet the need, and what they lead to, are the same. -/
theorem leastK_congr {p : Pg} {y : Yr} {g g' : Int → Int} {c c' : Int} : ∀ (n : Nat) (k best : Int), (∀ j, k ≤ j → j < k + n → ((y.need ≤ c + j * p.gain ↔ y.need ≤ c' + j * p.gain) ∧ (y.need ≤ c + j * p.gain → g (aft p c j) = g' (aft p c' j)))) →
    leastK p y g c n k best = leastK p y g' c' n k best
  | 0, _, _, _ => rfl
  | n + 1, k, best, h => by
    rw [leastK, leastK]
    have h1 := h k (Int.le_refl _) (by omega)
    have h2 : tryK p y g c best k = tryK p y g' c' best k := by
      unfold tryK
      by_cases hn : y.need ≤ c + k * p.gain
      · rw [if_pos hn, if_pos (h1.1.1 hn), h1.2 hn]
      · rw [if_neg hn, if_neg (fun h => hn (h1.1.2 h))]
    rw [h2]
    exact leastK_congr n (k + 1) _ fun j h3 h4 => h j (by omega) (by omega)
theorem leastW_congr {p : Pg} {y : Yr} {g g' : Int → Int} {c c' : Int} (h : ∀ j, 0 ≤ j → j ≤ p.most → ((y.need ≤ c + j * p.gain ↔ y.need ≤ c' + j * p.gain) ∧ (y.need ≤ c + j * p.gain → g (aft p c j) = g' (aft p c' j)))) (hm : 0 ≤ p.most) :
    leastW p y g c = leastW p y g' c' := leastK_congr _ _ _ fun j h1 h2 => h j h1 (by omega)
theorem aft_nonneg {p : Pg} (hp : 0 ≤ p.gain) (hk : 0 ≤ p.keep) {c k : Int} (hc : 0 ≤ c) (h : 0 ≤ k) : 0 ≤ aft p c k := by
  unfold aft
  have h1 : 0 ≤ k * p.gain := Int.mul_nonneg h hp
  have h2 : 0 ≤ (c + k * p.gain) * p.keep := Int.mul_nonneg (by omega) hk
  omega
theorem aft_mono {p : Pg} (hk : 0 ≤ p.keep) {c c' k : Int} (hc : c ≤ c') : aft p c k ≤ aft p c' k := by
  unfold aft
  exact Int.ediv_le_ediv (by decide) (Int.mul_le_mul_of_nonneg_right (by omega) hk)
/-- With more capacity it is no more. -/
theorem leastW_mono {p : Pg} {y : Yr} {g : Int → Int} (hm : 0 ≤ p.most) (hg : 0 ≤ p.gain) (hk : 0 ≤ p.keep) (h : ∀ a b, 0 ≤ a → a ≤ b → g b ≤ g a) {c c' : Int} (h0 : 0 ≤ c) (hc : c ≤ c') : leastW p y g c' ≤ leastW p y g c := by
  rcases leastW_is (p := p) (y := y) (g := g) (c := c) hm with h1 | ⟨j, h1, h2, h3, h4⟩
  · rw [h1]; exact leastW_le
  · rw [h4]
    refine Int.le_trans (leastW_at h1 h2 (by omega)) ?_
    have := h _ _ (aft_nonneg hg hk h0 h1) (aft_mono hk hc (k := j))
    omega
theorem leastF_mono {p : Pg} (hm : 0 ≤ p.most) (hg : 0 ≤ p.gain) (hk : 0 ≤ p.keep) : ∀ (ys : List Yr) (a b : Int), 0 ≤ a → a ≤ b → leastF p ys b ≤ leastF p ys a
  | [], _, _, _, _ => Int.le_refl _
  | y :: ys, a, b, h0, h => leastW_mono hm hg hk (leastF_mono hm hg hk ys) h0 h
theorem leastW_nonneg {p : Pg} {y : Yr} {g : Int → Int} (hy : 0 ≤ y.price) (hm : 0 ≤ p.most) (h : ∀ c, 0 ≤ g c) {c : Int} : 0 ≤ leastW p y g c := by
  rcases leastW_is (p := p) (y := y) (g := g) (c := c) hm with h1 | ⟨j, h1, h2, h3, h4⟩
  · rw [h1]; decide
  · rw [h4]
    have h5 := Int.mul_nonneg h1 hy
    have h6 := h (aft p c j)
    omega
theorem leastF_nonneg {p : Pg} (hm : 0 ≤ p.most) : ∀ (ys : List Yr), (∀ y ∈ ys, yrOk y = true) → ∀ c, 0 ≤ leastF p ys c
  | [], _, _ => Int.le_refl _
  | y :: ys, h, c => leastW_nonneg (yrOk_iff.1 (h y (by simp))).2.1 hm (leastF_nonneg hm ys fun y hy => h y (by simp [hy]))
theorem leastF_le {p : Pg} : ∀ (ys : List Yr) (c : Int), leastF p ys c ≤ never
  | [], _ => show (0 : Int) ≤ 1000000000000 by decide
  | y :: ys, c => leastW_le
/-- With very much capacity nothing is drilled. -/
theorem leastF_much {p : Pg} (hp : pgOk p = true) (hk : 971 ≤ p.keep) : ∀ (ys : List Yr) (c : Int), (∀ y ∈ ys, yrOk y = true) → ys.length ≤ 8 → 30000000 + 8000000 * ys.length ≤ c → leastF p ys c = 0
  | [], _, _, _, _ => rfl
  | y :: ys, c, hy, hl, hc => by
    have hp1 := pgOk_iff.1 hp
    have hy1 := yrOk_iff.1 (hy y (by simp))
    have h1 : leastF p (y :: ys) c ≤ 0 * y.price + leastF p ys (aft p c 0) := leastW_at (Int.le_refl _) hp1.2.2.2.1.1 (by simp only [List.length_cons] at hc; omega)
    have h2 : leastF p ys (aft p c 0) = 0 := by
      refine leastF_much hp hk ys _ (fun y h => hy y (by simp [h])) (by simp only [List.length_cons] at hl; omega) ?_
      simp only [List.length_cons] at hc hl
      unfold aft
      have h3 : (30000000 + 8000000 * ((ys.length : Int) + 1)) * p.keep ≤ (c + 0 * p.gain) * p.keep := Int.mul_le_mul_of_nonneg_right (by omega) (by omega)
      have h4 : (30000000 + 8000000 * ((ys.length : Int) + 1)) * 971 ≤ (30000000 + 8000000 * ((ys.length : Int) + 1)) * p.keep := Int.mul_le_mul_of_nonneg_left hk (by omega)
      omega
    have h3 := leastF_nonneg (p := p) hp1.2.2.2.1.1 (y :: ys) hy c
    omega

/-! ### Ladders -/

/-- What a ladder has for a capacity: the last rung for all that lies above. -/
def costI : List Rn → Int → Int
  | [], _ => 0
  | [r], _ => r.c
  | r :: l, c => if c ≤ r.u then r.c else costI l c
/-- The first number not below c. -/
def firstG : List Int → Int → Int
  | [], c => c
  | b :: l, c => if c ≤ b then b else firstG l c
/-- A rung more. -/
def addR (l : List Rn) (b cost : Int) : List Rn :=
  match l.getLast? with
  | some r => if r.c = cost then l.dropLast ++ [⟨b, cost⟩] else l ++ [⟨b, cost⟩]
  | none => [⟨b, cost⟩]
def buildL (g : Int → Int) (bs : List Int) : List Rn := bs.foldl (fun l b => addR l b (g b)) []
/-- Strictly up, strictly down. -/
def steps : List Rn → Bool
  | r :: s :: l => decide (r.u < s.u) && (decide (s.c < r.c) && steps (s :: l))
  | _ => true
def endsAt (l : List Rn) (u : Int) : Prop := ∃ r, l.getLast? = some r ∧ r.u = u

theorem costI_app : ∀ (l : List Rn) (r : Rn) (c : Int), costI (l ++ [r]) c = if (l.any fun x => decide (c ≤ x.u)) = true then costI l c else r.c
  | [], r, c => by simp [costI]
  | [x], r, c => by
    by_cases h : c ≤ x.u <;> simp [costI, h]
  | x :: y :: l, r, c => by
    have ih := costI_app (y :: l) r c
    simp only [List.cons_append, costI, List.any_cons, Bool.or_eq_true, decide_eq_true_eq] at ih ⊢
    by_cases h : c ≤ x.u
    · simp [h]
    · rw [if_neg h, if_neg h, ih]
      simp [h]
theorem steps_last : ∀ {l : List Rn}, steps l = true → ∀ {r}, l.getLast? = some r → ∀ x ∈ l, x.u ≤ r.u ∧ r.c ≤ x.c
  | [], _, r, h, x, hx => by simp at hx
  | [a], _, r, h, x, hx => by simp at h hx; subst h hx; exact ⟨Int.le_refl _, Int.le_refl _⟩
  | a :: b :: l, hs, r, h, x, hx => by
    simp only [steps, Bool.and_eq_true, decide_eq_true_eq] at hs
    have h1 : (b :: l).getLast? = some r := by simpa using h
    have ih := steps_last hs.2.2 h1
    rcases List.mem_cons.1 hx with rfl | hx
    · have := ih b (by simp)
      omega
    · exact ih x hx
theorem steps_app : ∀ {l : List Rn} {r : Rn}, steps (l ++ [r]) = true ↔ steps l = true ∧ (∀ x, l.getLast? = some x → x.u < r.u ∧ r.c < x.c)
  | [], r => by simp [steps]
  | [a], r => by simp [steps]
  | a :: b :: l, r => by
    have ih := steps_app (l := b :: l) (r := r)
    simp only [List.cons_append, steps, Bool.and_eq_true, decide_eq_true_eq] at ih ⊢
    rw [ih]
    have : (a :: b :: l).getLast? = (b :: l).getLast? := by simp
    rw [this]
    constructor
    · rintro ⟨h1, h2, h3, h4⟩; exact ⟨⟨h1, h2, h3⟩, h4⟩
    · rintro ⟨⟨h1, h2, h3⟩, h4⟩; exact ⟨h1, h2, h3, h4⟩
theorem any_last {l : List Rn} (hs : steps l = true) {r : Rn} (hr : l.getLast? = some r) {c : Int} : (l.any fun x => decide (c ≤ x.u)) = true ↔ c ≤ r.u := by
  simp only [List.any_eq_true, decide_eq_true_eq]
  constructor
  · rintro ⟨x, hx, h⟩
    have := steps_last hs hr x hx
    omega
  · intro h
    exact ⟨r, List.mem_of_getLast? hr, h⟩
/-- What holds of the ladder over some numbers. -/
structure BOk (g : Int → Int) (bs : List Int) (l : List Rn) : Prop where
  st : steps l = true
  last : ∀ b, bs.getLast? = some b → l.getLast? = some ⟨b, g b⟩
  nil : bs = [] → l = []
  val : ∀ c b, bs.getLast? = some b → c ≤ b → costI l c = g (firstG bs c)
  mem : ∀ r ∈ l, r.u ∈ bs ∧ r.c = g r.u
theorem firstG_app : ∀ (bs : List Int) (b c : Int), firstG (bs ++ [b]) c = if (bs.any fun x => decide (c ≤ x)) = true then firstG bs c else if c ≤ b then b else c
  | [], b, c => by simp [firstG]
  | x :: bs, b, c => by
    have ih := firstG_app bs b c
    simp only [List.cons_append, firstG, List.any_cons, Bool.or_eq_true, decide_eq_true_eq] at ih ⊢
    by_cases h : c ≤ x
    · simp [h]
    · rw [if_neg h, if_neg h, ih]; simp [h]
theorem up_last : ∀ {bs : List Int}, bs.Pairwise (· < ·) → ∀ {b}, bs.getLast? = some b → ∀ x ∈ bs, x ≤ b
  | [], _, b, h, x, hx => by simp at hx
  | [a], _, b, h, x, hx => by simp at h hx; omega
  | a :: c :: bs, hs, b, h, x, hx => by
    rw [List.pairwise_cons] at hs
    have h1 : (c :: bs).getLast? = some b := by simpa using h
    have ih := up_last hs.2 h1
    rcases List.mem_cons.1 hx with rfl | hx
    · have := hs.1 c (by simp)
      have := ih c (by simp)
      omega
    · exact ih x hx
theorem addR_ok {g : Int → Int} {bs : List Int} {l : List Rn} (h : BOk g bs l) {b : Int} (hb : ∀ x, bs.getLast? = some x → x < b ∧ g b ≤ g x) (hup : bs.Pairwise (· < ·)) : BOk g (bs ++ [b]) (addR l b (g b)) := by
  cases hl : bs.getLast? with
  | none =>
    have hbs : bs = [] := by simpa using hl
    have h1 := h.nil hbs
    subst hbs h1
    refine ⟨rfl, ?_, by simp, ?_, ?_⟩
    · intro x hx; simp at hx; subst hx; rfl
    · intro c x hx hc
      simp at hx; subst hx
      simp [addR, costI, firstG, hc]
    · intro r hr
      simp [addR] at hr
      subst hr
      simp
  | some x =>
    have h1 := h.last x hl
    have h2 := hb x hl
    have hany : ∀ c, (bs.any fun y => decide (c ≤ y)) = true ↔ c ≤ x := fun c => by
      simp only [List.any_eq_true, decide_eq_true_eq]
      exact ⟨fun ⟨y, hy, h⟩ => by have := up_last hup hl y hy; omega, fun h => ⟨x, List.mem_of_getLast? hl, h⟩⟩
    obtain ⟨l0, hl0⟩ : ∃ l0, l = l0 ++ [⟨x, g x⟩] := ⟨l.dropLast, by
      have hne : l ≠ [] := by rintro rfl; simp at h1
      have := List.dropLast_concat_getLast hne
      rw [List.getLast?_eq_some_getLast hne] at h1
      simp only [Option.some.injEq] at h1
      rw [← h1]; exact this.symm⟩
    have hst := h.st
    unfold addR
    rw [h1]
    by_cases hq : g x = g b
    · simp only [hq, if_true]
      rw [hl0, List.dropLast_concat]
      rw [hl0, steps_app] at hst
      have hs2 : steps (l0 ++ [⟨b, g b⟩]) = true := by
        rw [steps_app]
        refine ⟨hst.1, fun y hy => ?_⟩
        have := hst.2 y hy
        simp only at this ⊢
        omega
      refine ⟨hs2, ?_, by simp, ?_, ?_⟩
      · intro y hy; simp at hy; subst hy; simp
      · intro c y hy hc
        simp at hy; subst hy
        have hv := h.val c x hl
        rw [hl0, costI_app] at hv
        rw [costI_app, firstG_app]
        have hb1 : ∀ c, (l0.any fun y => decide (c ≤ y.u)) = true → c ≤ x := fun c hc => by
          simp only [List.any_eq_true, decide_eq_true_eq] at hc
          obtain ⟨y, hy, hc⟩ := hc
          have := steps_last (l := l0 ++ [⟨x, g x⟩]) (by rw [← hl0]; exact h.st) (r := ⟨x, g x⟩) (by simp) y (by simp [hy])
          simp only at this
          omega
        by_cases hcx : c ≤ x
        · rw [if_pos ((hany c).2 hcx), ← hv hcx]
          split
          · rfl
          · exact hq.symm
        · rw [if_neg (fun h => hcx ((hany c).1 h)), if_neg (fun h => hcx (hb1 c h)), if_pos hc]
      · intro r hr
        simp at hr
        rcases hr with hr | rfl
        · have := h.mem r (by rw [hl0]; simp [hr])
          exact ⟨by simp [this.1], this.2⟩
        · simp
    · simp only [hq, if_false]
      refine ⟨?_, ?_, by simp, ?_, ?_⟩
      · rw [steps_app]
        refine ⟨h.st, fun y hy => ?_⟩
        rw [h1] at hy
        simp only [Option.some.injEq] at hy
        subst hy
        simp only
        omega
      · intro y hy; simp at hy; subst hy; simp
      · intro c y hy hc
        simp at hy; subst hy
        rw [costI_app, firstG_app]
        have hal := any_last h.st h1 (c := c)
        by_cases hcx : c ≤ x
        · rw [if_pos ((hany c).2 hcx), if_pos (hal.2 hcx), h.val c x hl hcx]
        · rw [if_neg (fun h => hcx ((hany c).1 h)), if_neg (fun h => hcx (hal.1 h)), if_pos hc]
      · intro r hr
        simp at hr
        rcases hr with hr | rfl
        · have := h.mem r hr
          exact ⟨by simp [this.1], this.2⟩
        · simp
theorem buildL_ok {g : Int → Int} (bs : List Int) (hup : bs.Pairwise (· < ·)) (hg : ∀ a ∈ bs, ∀ b ∈ bs, a ≤ b → g b ≤ g a) : BOk g bs (buildL g bs) := by
  have key : ∀ n, n ≤ bs.length → BOk g (bs.take n) (buildL g (bs.take n)) := by
    intro n
    induction n with
    | zero => intro _; exact ⟨rfl, by simp, fun _ => rfl, by simp, by simp [buildL]⟩
    | succ n ih =>
      intro hn
      have hx : bs[n]? = some bs[n] := List.getElem?_eq_getElem (by omega)
      have e : bs.take (n + 1) = bs.take n ++ [bs[n]] := by rw [List.take_add_one, hx]; rfl
      rw [e]
      have e2 : buildL g (bs.take n ++ [bs[n]]) = addR (buildL g (bs.take n)) bs[n] (g bs[n]) := by unfold buildL; rw [List.foldl_append]; rfl
      rw [e2]
      have hup2 := hup.sublist (List.take_sublist (n + 1) bs)
      rw [e, List.pairwise_append] at hup2
      refine addR_ok (ih (by omega)) (fun x hx2 => ?_) hup2.1
      have hm := List.mem_of_getLast? hx2
      have h1 := hup2.2.2 x hm bs[n] (by simp)
      exact ⟨h1, hg x (List.mem_of_mem_take hm) _ (List.mem_of_getElem? hx) (by omega)⟩
  have := key bs.length (Nat.le_refl _)
  rwa [List.take_length] at this

/-! ### Where something changes -/

def inHeld (c : Int) : List Int := if inn c 0 held then [c] else []
/-- The number at which a rung of the next year is passed. -/
def brk (p : Pg) (k : Int) (r : Rn) : List Int := if 0 < p.keep then inHeld ((1000 * (r.u + 1) + p.keep - 1) / p.keep - 1 - k * p.gain) else []
def brkK (p : Pg) (y : Yr) (next : List Rn) (k : Int) : List Int := inHeld (y.need - k * p.gain - 1) ++ next.dropLast.flatMap (brk p k)
def brks (p : Pg) (y : Yr) (next : List Rn) : Nat → Int → List Int
  | 0, _ => []
  | n + 1, k => brkK p y next k ++ brks p y next n (k + 1)
def breaksL (p : Pg) (y : Yr) (next : List Rn) : List Int := compI (sortI ([held] ++ brks p y next (p.most.toNat + 1) 0))
theorem brks_mem {p : Pg} {y : Yr} {next : List Rn} {x : Int} : ∀ (n : Nat) (k : Int), x ∈ brks p y next n k ↔ ∃ j, k ≤ j ∧ j < k + n ∧ x ∈ brkK p y next j
  | 0, k => by
    simp only [brks, List.not_mem_nil, false_iff]
    rintro ⟨j, h1, h2, _⟩
    omega
  | n + 1, k => by
    simp only [brks, List.mem_append, brks_mem n (k + 1)]
    constructor
    · rintro (h | ⟨j, h1, h2, h3⟩)
      · exact ⟨k, by omega, by omega, h⟩
      · exact ⟨j, by omega, by omega, h3⟩
    · rintro ⟨j, h1, h2, h3⟩
      by_cases hj : j = k
      · subst hj; exact .inl h3
      · exact .inr ⟨j, by omega, by omega, h3⟩
theorem insI_mem {x z : Int} : ∀ {l : List Int}, z ∈ insI x l ↔ z = x ∨ z ∈ l
  | [] => by simp [insI]
  | y :: l => by
    unfold insI
    split
    · simp
    · simp only [List.mem_cons, insI_mem (l := l)]
      constructor
      · rintro (h | h | h) <;> simp [h]
      · rintro (h | h | h) <;> simp [h]
theorem sortI_mem {z : Int} : ∀ {l : List Int}, z ∈ sortI l ↔ z ∈ l
  | [] => by simp [sortI]
  | x :: l => by simp [sortI, insI_mem, sortI_mem (l := l)]
theorem insI_up {x : Int} : ∀ {l : List Int}, l.Pairwise (· ≤ ·) → (insI x l).Pairwise (· ≤ ·)
  | [], _ => by simp [insI]
  | y :: l, h => by
    rw [List.pairwise_cons] at h
    unfold insI
    split
    · rename_i hx
      refine List.pairwise_cons.2 ⟨fun z hz => ?_, List.pairwise_cons.2 h⟩
      rcases List.mem_cons.1 hz with rfl | hz
      · exact hx
      · have := h.1 z hz; omega
    · rename_i hx
      refine List.pairwise_cons.2 ⟨fun z hz => ?_, insI_up h.2⟩
      rcases insI_mem.1 hz with rfl | hz
      · omega
      · exact h.1 z hz
theorem sortI_up : ∀ (l : List Int), (sortI l).Pairwise (· ≤ ·)
  | [] => .nil
  | x :: l => insI_up (sortI_up l)
theorem compT_ok {x : Int} : ∀ {l : List Int}, (x :: l).Pairwise (· ≤ ·) → (x :: compT x l).Pairwise (· < ·) ∧ ∀ z, z ∈ x :: compT x l ↔ z ∈ x :: l
  | [], _ => by simp [compT]
  | y :: l, h => by
    unfold compT
    by_cases hy : y = x
    · subst hy
      rw [if_pos rfl]
      have ih := compT_ok (x := y) (l := l) (by rw [List.pairwise_cons] at h; exact h.2)
      exact ⟨ih.1, fun z => by rw [ih.2 z]; simp⟩
    · rw [if_neg hy]
      rw [List.pairwise_cons] at h
      have ih := compT_ok (x := y) (l := l) h.2
      refine ⟨List.pairwise_cons.2 ⟨fun z hz => ?_, ih.1⟩, fun z => ?_⟩
      · have h1 := h.1 y (by simp)
        have h2 := (ih.2 z).1 hz
        rcases List.mem_cons.1 h2 with rfl | h3
        · omega
        · rw [List.pairwise_cons] at h
          have := h.2.1 z h3
          omega
      · rw [List.mem_cons, ih.2 z, List.mem_cons (a := z) (b := x)]
theorem compI_ok {l : List Int} (h : l.Pairwise (· ≤ ·)) : (compI l).Pairwise (· < ·) ∧ ∀ z, z ∈ compI l ↔ z ∈ l := by
  cases l with
  | nil => simp [compI]
  | cons x l => exact compT_ok h
theorem breaksL_up (p : Pg) (y : Yr) (next : List Rn) : (breaksL p y next).Pairwise (· < ·) := (compI_ok (sortI_up _)).1
theorem breaksL_mem {p : Pg} {y : Yr} {next : List Rn} (hm : 0 ≤ p.most) {x : Int} : x ∈ breaksL p y next ↔ x = held ∨ ∃ j, 0 ≤ j ∧ j ≤ p.most ∧ x ∈ brkK p y next j := by
  unfold breaksL
  rw [(compI_ok (sortI_up _)).2, sortI_mem, List.singleton_append, List.mem_cons, brks_mem]
  constructor
  · rintro (h | ⟨j, h1, h2, h3⟩)
    · exact .inl h
    · exact .inr ⟨j, h1, by omega, h3⟩
  · rintro (h | ⟨j, h1, h2, h3⟩)
    · exact .inl h
    · exact .inr ⟨j, h1, by omega, h3⟩
theorem inHeld_mem {c x : Int} : x ∈ inHeld c ↔ x = c ∧ 0 ≤ c ∧ c ≤ held := by
  unfold inHeld
  by_cases h : inn c 0 held = true
  · rw [if_pos h]
    have := inn_iff.1 h
    simp only [List.mem_singleton]
    exact ⟨fun h => ⟨h, this⟩, fun h => h.1⟩
  · rw [if_neg h]
    have : ¬ (0 ≤ c ∧ c ≤ held) := fun hh => h (inn_iff.2 hh)
    simp only [List.not_mem_nil, false_iff, not_and]
    intro _ h1 h2
    exact this ⟨h1, h2⟩
theorem breaksL_bd {p : Pg} {y : Yr} {next : List Rn} (hm : 0 ≤ p.most) : ∀ x ∈ breaksL p y next, 0 ≤ x ∧ x ≤ held := by
  intro x hx
  rcases (breaksL_mem hm).1 hx with rfl | ⟨j, _, _, h3⟩
  · decide
  · simp only [brkK, List.mem_append, List.mem_flatMap] at h3
    rcases h3 with h3 | ⟨r, _, h3⟩
    · have := inHeld_mem.1 h3; omega
    · unfold brk at h3
      split at h3
      · have := inHeld_mem.1 h3; omega
      · simp at h3
theorem up_has : ∀ {bs : List Int} {m : Int}, bs.Pairwise (· < ·) → m ∈ bs → (∀ x ∈ bs, x ≤ m) → bs.getLast? = some m
  | [], m, _, h, _ => by simp at h
  | [a], m, _, h, _ => by simp at h; simp [h]
  | a :: b :: bs, m, hs, h, hle => by
    rw [List.pairwise_cons] at hs
    have h1 : m ∈ b :: bs := by
      rcases List.mem_cons.1 h with rfl | h
      · have h2 := hs.1 b (by simp)
        have h3 := hle b (by simp)
        omega
      · exact h
    have := up_has hs.2 h1 (fun x hx => hle x (by simp [hx]))
    simpa using this
theorem breaksL_last {p : Pg} {y : Yr} {next : List Rn} (hm : 0 ≤ p.most) : (breaksL p y next).getLast? = some held :=
  up_has (breaksL_up ..) ((breaksL_mem hm).2 (.inl rfl)) fun x hx => (breaksL_bd hm x hx).2
theorem firstG_ok : ∀ {bs : List Int} {c m : Int}, bs.Pairwise (· < ·) → bs.getLast? = some m → c ≤ m → firstG bs c ∈ bs ∧ c ≤ firstG bs c ∧ ∀ x ∈ bs, c ≤ x → firstG bs c ≤ x
  | [], c, m, _, h, _ => by simp at h
  | b :: bs, c, m, hs, h, hc => by
    rw [List.pairwise_cons] at hs
    unfold firstG
    by_cases hb : c ≤ b
    · rw [if_pos hb]
      refine ⟨by simp, hb, fun x hx _ => ?_⟩
      rcases List.mem_cons.1 hx with rfl | hx
      · exact Int.le_refl _
      · have := hs.1 x hx; omega
    · rw [if_neg hb]
      cases bs with
      | nil => simp at h; omega
      | cons b' bs =>
        have ih := firstG_ok (c := c) hs.2 (by simpa using h) hc
        refine ⟨by simp [ih.1], ih.2.1, fun x hx hcx => ?_⟩
        rcases List.mem_cons.1 hx with rfl | hx
        · omega
        · exact ih.2.2 x hx hcx
/-- Below the last rung a ladder has the same for two numbers between which no rung but the last lies. -/
theorem costI_same : ∀ {l : List Rn} {a b : Int}, a ≤ b → (∀ r ∈ l.dropLast, b ≤ r.u ∨ r.u < a) → costI l a = costI l b
  | [], _, _, _, _ => rfl
  | [_], _, _, _, _ => rfl
  | r :: s :: l, a, b, h, hr => by
    have ih := costI_same (l := s :: l) h fun x hx => hr x (by simp only [List.dropLast_cons_of_ne_nil (List.cons_ne_nil s l)]; exact List.mem_cons_of_mem _ hx)
    have h1 := hr r (by simp)
    simp only [costI, ih]
    rcases h1 with h1 | h1
    · rw [if_pos (by omega), if_pos h1]
    · rw [if_neg (by omega), if_neg (by omega)]
/-- Between two breaks nothing changes. -/
theorem leastW_const {p : Pg} {y : Yr} {next : List Rn} (hp : pgOk p = true) {c b : Int} (h0 : 0 ≤ c) (hb : b ≤ held) (hcb : c ≤ b) (hno : ∀ x ∈ breaksL p y next, ¬ (c ≤ x ∧ x < b)) : leastW p y (costI next) c = leastW p y (costI next) b := by
  have hp1 := pgOk_iff.1 hp
  have hm := hp1.2.2.2.1.1
  refine leastW_congr (fun j h1 h2 => ?_) hm
  have hj : 0 ≤ j * p.gain := Int.mul_nonneg h1 (by omega)
  constructor
  · have h3 := hno (y.need - j * p.gain - 1)
    constructor
    · intro h; omega
    · intro h
      apply Classical.byContradiction
      intro hn
      refine h3 ((breaksL_mem hm).2 (.inr ⟨j, h1, h2, ?_⟩)) ⟨by omega, by omega⟩
      simp only [brkK, List.mem_append]
      exact .inl (inHeld_mem.2 ⟨rfl, by omega, by omega⟩)
  · intro _
    refine costI_same (aft_mono hp1.2.2.1.1 hcb) fun r hr => ?_
    apply Classical.byContradiction
    intro hn
    simp only [not_or, Int.not_le, Int.not_lt] at hn
    have hk0 : 0 < p.keep := by
      apply Classical.byContradiction
      intro hk
      have hk2 : p.keep = 0 := by omega
      unfold aft at hn
      rw [hk2] at hn
      simp at hn
      omega
    -- the break of this rung
    have h4 := hno ((1000 * (r.u + 1) + p.keep - 1) / p.keep - 1 - j * p.gain)
    have e1 : (c + j * p.gain) * p.keep < 1000 * (r.u + 1) := by
      have := hn.2
      unfold aft at this
      omega
    have e2 : 1000 * (r.u + 1) ≤ (b + j * p.gain) * p.keep := by
      have := hn.1
      unfold aft at this
      omega
    have e3 : c + j * p.gain ≤ (1000 * (r.u + 1) + p.keep - 1) / p.keep - 1 := by
      have : (c + j * p.gain) + 1 ≤ (1000 * (r.u + 1) + p.keep - 1) / p.keep := by
        rw [Int.le_ediv_iff_mul_le hk0, Int.add_mul]
        omega
      omega
    have e4 : (1000 * (r.u + 1) + p.keep - 1) / p.keep - 1 < b + j * p.gain := by
      have : (1000 * (r.u + 1) + p.keep - 1) / p.keep < (b + j * p.gain) + 1 := by
        rw [Int.ediv_lt_iff_lt_mul hk0, Int.add_mul]
        omega
      omega
    refine h4 ((breaksL_mem hm).2 (.inr ⟨j, h1, h2, ?_⟩)) ⟨by omega, by omega⟩
    simp only [brkK, List.mem_append, List.mem_flatMap]
    refine .inr ⟨r, hr, ?_⟩
    unfold brk
    rw [if_pos hk0]
    exact inHeld_mem.2 ⟨rfl, by omega, by omega⟩
/-- The ladder of a year. -/
def ladL (p : Pg) (y : Yr) (next : List Rn) : List Rn := buildL (leastW p y (costI next)) (breaksL p y next)
def lads (p : Pg) : List Yr → List (List Rn)
  | [] => []
  | y :: ys => ladL p y ((lads p ys).headD [⟨held, 0⟩]) :: lads p ys
/-- The ladder of the years that are left. -/
def ladF (p : Pg) (ys : List Yr) : List Rn := (lads p ys).headD [⟨held, 0⟩]
structure LOk (p : Pg) (ys : List Yr) (l : List Rn) : Prop where
  st : steps l = true
  last : ∃ c, l.getLast? = some ⟨held, c⟩
  val : ∀ c, 0 ≤ c → c ≤ held → costI l c = leastF p ys c
  mem : ∀ r ∈ l, 0 ≤ r.u ∧ r.u ≤ held ∧ r.c = leastF p ys r.u
theorem costI_top {l : List Rn} (hs : steps l = true) {k : Int} (hl : l.getLast? = some ⟨held, k⟩) {c : Int} (hc : held ≤ c) : costI l c = k := by
  obtain ⟨l0, rfl⟩ : ∃ l0, l = l0 ++ [⟨held, k⟩] := ⟨l.dropLast, by
    have hne : l ≠ [] := by rintro rfl; simp at hl
    have := List.dropLast_concat_getLast hne
    rw [List.getLast?_eq_some_getLast hne] at hl
    simp only [Option.some.injEq] at hl
    rw [← hl]; exact this.symm⟩
  rw [costI_app]
  split
  · rename_i h
    simp only [List.any_eq_true, decide_eq_true_eq] at h
    obtain ⟨x, hx, hcx⟩ := h
    rw [steps_app] at hs
    cases hg : l0.getLast? with
    | none => simp at hg; subst hg; simp at hx
    | some z =>
      have h1 := hs.2 z hg
      have h2 := steps_last hs.1 hg x hx
      simp only at h1
      omega
  · rfl
/-- .. and for all that a year leads to. -/
theorem LOk.all {p : Pg} {ys : List Yr} {l : List Rn} (h : LOk p ys l) (hp : pgOk p = true) (hy : ∀ y ∈ ys, yrOk y = true) (hn : ys.length ≤ 8) {c j : Int} (h0 : 0 ≤ c) (hc : c ≤ held) (h1 : 0 ≤ j) (h2 : j ≤ p.most) :
    costI l (aft p c j) = leastF p ys (aft p c j) := by
  have hp1 := pgOk_iff.1 hp
  have h3 := aft_nonneg (p := p) (c := c) (k := j) (by omega) (by omega) h0 h1
  by_cases h4 : aft p c j ≤ held
  · exact h.val _ h3 h4
  · obtain ⟨k, hk⟩ := h.last
    rw [costI_top h.st hk (by omega)]
    have h5 : leastF p ys held = k := (h.mem ⟨held, k⟩ (List.mem_of_getLast? hk)).2.2.symm
    have h6 : 971 ≤ p.keep := by
      apply Classical.byContradiction
      intro hh
      apply h4
      unfold aft
      have h7 : (c + j * p.gain) * p.keep ≤ (held + 3 * 1000000) * 970 := by
        have h8 : j * p.gain ≤ 3 * 1000000 := Int.le_trans (Int.mul_le_mul_of_nonneg_right (show j ≤ 3 by omega) (by omega)) (Int.mul_le_mul_of_nonneg_left (by omega) (by omega))
        have h9 : 0 ≤ j * p.gain := Int.mul_nonneg h1 (by omega)
        exact Int.le_trans (Int.mul_le_mul_of_nonneg_left (show p.keep ≤ 970 by omega) (by omega)) (Int.mul_le_mul_of_nonneg_right (by omega) (by omega))
      simp only [held] at *
      omega
    have h7 := leastF_much hp h6 ys held hy hn (by simp only [held]; omega)
    have h8 := leastF_much hp h6 ys (aft p c j) hy hn (by simp only [held] at *; omega)
    omega
theorem ladL_ok {p : Pg} {y : Yr} {ys : List Yr} {next : List Rn} (h : LOk p ys next) (hp : pgOk p = true) (hy : ∀ z ∈ y :: ys, yrOk z = true) (hn : ys.length ≤ 8) : LOk p (y :: ys) (ladL p y next) := by
  have hp1 := pgOk_iff.1 hp
  have hm := hp1.2.2.2.1.1
  have hF : ∀ c, 0 ≤ c → c ≤ held → leastW p y (costI next) c = leastF p (y :: ys) c := fun c h0 h1 =>
    leastW_congr (fun j h2 h3 => ⟨Iff.rfl, fun _ => h.all hp (fun z hz => hy z (by simp [hz])) hn h0 h1 h2 h3⟩) hm
  have hbd := breaksL_bd (p := p) (y := y) (next := next) hm
  have hup := breaksL_up p y next
  have hlast := breaksL_last (p := p) (y := y) (next := next) hm
  have hB := buildL_ok (g := leastW p y (costI next)) (breaksL p y next) hup fun a ha b hb hab => by
    have h1 := hbd a ha
    have h2 := hbd b hb
    rw [hF a h1.1 h1.2, hF b h2.1 h2.2]
    exact leastF_mono hm (by omega) hp1.2.2.1.1 _ _ _ h1.1 hab
  refine ⟨hB.st, ⟨_, hB.last _ hlast⟩, fun c h0 h1 => ?_, fun r hr => ?_⟩
  · have h2 := firstG_ok hup hlast h1
    have h3 := hbd _ h2.1
    unfold ladL
    rw [hB.val c held hlast h1, ← leastW_const hp h0 h3.2 h2.2.1 (fun x hx hh => by have := h2.2.2 x hx hh.1; omega), hF c h0 h1]
  · have h1 := hB.mem r hr
    have h2 := hbd r.u h1.1
    exact ⟨h2.1, h2.2, by rw [h1.2, hF _ h2.1 h2.2]⟩
theorem ladF_ok {p : Pg} (hp : pgOk p = true) : ∀ (ys : List Yr), (∀ y ∈ ys, yrOk y = true) → ys.length ≤ 8 → LOk p ys (ladF p ys)
  | [], _, _ => ⟨rfl, ⟨0, rfl⟩, fun _ _ _ => rfl, fun r hr => by simp [ladF, lads] at hr; subst hr; exact ⟨by decide, by decide, rfl⟩⟩
  | y :: ys, hy, hn => ladL_ok (ladF_ok hp ys (fun z hz => hy z (by simp [hz])) (by simp only [List.length_cons] at hn; omega)) hp hy (by simp only [List.length_cons] at hn; omega)
end Go.Lease
