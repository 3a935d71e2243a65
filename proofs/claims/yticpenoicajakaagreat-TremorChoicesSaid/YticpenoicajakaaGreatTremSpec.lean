/-
  Layer 9 in plain Lean: points, ranges, networks, picks; what is valid; distances, travels, places. No program in sight.
-/
import Derived.Test.YticpenoicajakaaGreatBase2
set_option linter.unusedVariables false
set_option linter.unusedSimpArgs false
namespace Go.Trem
open Go Go.Abs

structure Pt where
  x : Int
  y : Int
  z : Int
  deriving DecidableEq
structure Rg where
  lo : Int
  hi : Int
  deriving DecidableEq
structure Stn where
  p : Pt
  err : Int
structure Net where
  st : List Stn
  s0 : Rg
  s1 : Rg
  low : Pt
  high : Pt
  step : Int
structure Pick where
  st : Int
  ph : Int
  t : Rg
structure Plc where
  p : Pt
  o : Rg
  deriving DecidableEq
structure FarRow where
  far : Int
  add : Int
structure Scale where
  levels : List Int
  rows : List FarRow
structure Reading where
  st : Int
  amt : Int
structure Pair where
  fst : Int
  thn : Int
structure Bet where
  num : Int
  den : Int
  a : Int
  b : Int
  odds : Int

@[simp] theorem Pt.eta (p : Pt) : Pt.mk p.x p.y p.z = p := rfl
@[simp] theorem Rg.eta (p : Rg) : Rg.mk p.lo p.hi = p := rfl
@[simp] theorem Stn.eta (p : Stn) : Stn.mk p.p p.err = p := rfl
@[simp] theorem Net.eta (p : Net) : Net.mk p.st p.s0 p.s1 p.low p.high p.step = p := rfl
@[simp] theorem Pick.eta (p : Pick) : Pick.mk p.st p.ph p.t = p := rfl
@[simp] theorem Scale.eta (p : Scale) : Scale.mk p.levels p.rows = p := rfl
@[simp] theorem Reading.eta (p : Reading) : Reading.mk p.st p.amt = p := rfl
@[simp] theorem FarRow.eta (p : FarRow) : FarRow.mk p.far p.add = p := rfl
@[simp] theorem Bet.eta (p : Bet) : Bet.mk p.num p.den p.a p.b p.odds = p := rfl

@[simp] def Pt.enc (p : Pt) : List D := [.int .i64 p.x, .int .i64 p.y, .int .i64 p.z]
@[simp] def Rg.enc (r : Rg) : List D := [.int .i64 r.lo, .int .i64 r.hi]
@[simp] def Stn.enc (s : Stn) : List D := [.int .i64 s.p.x, .int .i64 s.p.y, .int .i64 s.p.z, .int .i64 s.err]
@[simp] def Pick.enc (p : Pick) : List D := [.int .i64 p.st, .int .u8 p.ph, .int .i64 p.t.lo, .int .i64 p.t.hi]
@[simp] def Plc.enc (p : Plc) : List D := [.int .i64 p.p.x, .int .i64 p.p.y, .int .i64 p.p.z, .int .i64 p.o.lo, .int .i64 p.o.hi]
@[simp] def FarRow.enc (p : FarRow) : List D := [.int .i64 p.far, .int .i64 p.add]
@[simp] def Reading.enc (p : Reading) : List D := [.int .i64 p.st, .int .i64 p.amt]
@[simp] def Pair.enc (p : Pair) : List D := [.int .i64 p.fst, .int .i64 p.thn]
@[simp] def Bet.enc (b : Bet) : List D := [.int .i64 b.num, .int .i64 b.den, .int .i64 b.a, .int .i64 b.b, .int .i64 b.odds]
@[simp] def intE (n : Int) : List D := [.int .i64 n]
@[simp] def u8E (n : Int) : List D := [.int .u8 n]
@[simp] def u16E (n : Int) : List D := [.int .u16 n]
@[simp] def boolE (n : Bool) : List D := [.bool n]
@[simp] def Net.enc (n : Net) : List D := [.lst n.st.length (n.st.flatMap Stn.enc), .int .i64 n.s0.lo, .int .i64 n.s0.hi, .int .i64 n.s1.lo, .int .i64 n.s1.hi,
  .int .i64 n.low.x, .int .i64 n.low.y, .int .i64 n.low.z, .int .i64 n.high.x, .int .i64 n.high.y, .int .i64 n.high.z, .int .i64 n.step]
@[simp] def Scale.enc (s : Scale) : List D := [.lst s.levels.length (s.levels.flatMap intE), .lst s.rows.length (s.rows.flatMap FarRow.enc)]
@[simp] def heardE (n : Net) (l : List Pick) : List D := n.enc ++ [.lst l.length (l.flatMap Pick.enc)]

def eltPt : Elt Pt := eltAgg 3 Pt.enc fun _ => rfl
def eltRg : Elt Rg := eltAgg 2 Rg.enc fun _ => rfl
def eltStn : Elt Stn := eltAgg 4 Stn.enc fun _ => rfl
def eltPick : Elt Pick := eltAgg 4 Pick.enc fun _ => rfl
def eltRow : Elt FarRow := eltAgg 2 FarRow.enc fun _ => rfl
def eltReading : Elt Reading := eltAgg 2 Reading.enc fun _ => rfl

def inn (n lo hi : Int) : Bool := decide (lo ≤ n) && decide (n ≤ hi)
theorem inn_iff {n lo hi : Int} : inn n lo hi = true ↔ lo ≤ n ∧ n ≤ hi := by simp [inn]

def Pt.ok (p : Pt) : Bool := inn p.x (-20000) 20000 && (inn p.y (-20000) 20000 && inn p.z (-20000) 20000)
def boxOk (a b : Pt) : Bool := a.ok && (b.ok && (decide (a.x ≤ b.x) && (decide (a.y ≤ b.y) && decide (a.z ≤ b.z))))
def Stn.ok (s : Stn) : Bool := s.p.ok && inn s.err 0 1000
def Rg.inn (r : Rg) (lo hi : Int) : Bool := decide (lo ≤ r.lo) && (decide (r.lo ≤ r.hi) && decide (r.hi ≤ hi))
def steps (n : Net) (lo hi : Int) : Int := (hi - lo).tdiv n.step + 1
def Net.pre (n : Net) : Bool := Trem.inn n.st.length 1 12 && (allB n.st Stn.ok && (boxOk n.low n.high && (Trem.inn n.step 1 20000 && (n.s0.inn 1 2000 && n.s1.inn 1 2000))))
def Net.count (n : Net) : Int := steps n n.low.x n.high.x * steps n n.low.y n.high.y * steps n n.low.z n.high.z
def Net.ok (n : Net) : Bool := n.pre && decide (n.count ≤ 2000)

theorem Pt.ok_iff {p : Pt} : p.ok = true ↔ (-20000 ≤ p.x ∧ p.x ≤ 20000) ∧ (-20000 ≤ p.y ∧ p.y ≤ 20000) ∧ (-20000 ≤ p.z ∧ p.z ≤ 20000) := by
  simp only [Pt.ok, Bool.and_eq_true, inn_iff]

/-- The root of a number, by halving. -/
def bsr : Nat → Int → Int → Int → Int
  | 0, _, lo, _ => lo
  | f + 1, n, lo, hi => if lo < hi then (if ((lo + hi + 1) / 2) * ((lo + hi + 1) / 2) ≤ n then bsr f n ((lo + hi + 1) / 2) hi else bsr f n lo ((lo + hi + 1) / 2 - 1)) else lo

theorem bsr_spec : ∀ (f : Nat) (n lo hi : Int), 0 ≤ lo → lo ≤ hi → lo * lo ≤ n → n < (hi + 1) * (hi + 1) → hi - lo < 2 ^ f →
    lo ≤ bsr f n lo hi ∧ bsr f n lo hi ≤ hi ∧ bsr f n lo hi * bsr f n lo hi ≤ n ∧ n < (bsr f n lo hi + 1) * (bsr f n lo hi + 1)
  | 0, n, lo, hi, h0, h1, h2, h3, h4 => by
    have : hi = lo := by omega
    subst this
    exact ⟨Int.le_refl _, Int.le_refl _, h2, h3⟩
  | f + 1, n, lo, hi, h0, h1, h2, h3, h4 => by
    have hp : (2 : Int) ^ (f + 1) = 2 * 2 ^ f := by rw [Int.pow_succ]; omega
    rw [hp] at h4
    simp only [bsr]
    by_cases hl : lo < hi
    · rw [if_pos hl]
      have hm1 : lo < (lo + hi + 1) / 2 := by omega
      have hm2 : (lo + hi + 1) / 2 ≤ hi := by omega
      have hm3 : hi - (lo + hi + 1) / 2 < 2 ^ f := by omega
      have hm4 : (lo + hi + 1) / 2 - 1 - lo < 2 ^ f := by omega
      generalize (lo + hi + 1) / 2 = m at *
      by_cases hc : m * m ≤ n
      · rw [if_pos hc]
        have := bsr_spec f n m hi (by omega) hm2 hc h3 hm3
        exact ⟨by omega, this.2.1, this.2.2⟩
      · rw [if_neg hc]
        have := bsr_spec f n lo (m - 1) h0 (by omega) h2 (by rw [show m - 1 + 1 = m by omega]; omega) hm4
        exact ⟨this.1, by omega, this.2.2⟩
    · rw [if_neg hl]
      have : hi = lo := by omega
      subst this
      exact ⟨Int.le_refl _, Int.le_refl _, h2, h3⟩

theorem root_one {n r s : Int} (hr : 0 ≤ r) (hs : 0 ≤ s) (h1 : r * r ≤ n) (h2 : n < (r + 1) * (r + 1)) (h3 : s * s ≤ n) (h4 : n < (s + 1) * (s + 1)) : r = s := by
  rcases Int.lt_trichotomy r s with h | h | h
  · have : (r + 1) * (r + 1) ≤ s * s := Int.mul_le_mul (by omega) (by omega) (by omega) hs
    omega
  · exact h
  · have : (s + 1) * (s + 1) ≤ r * r := Int.mul_le_mul (by omega) (by omega) (by omega) hr
    omega

def sq (p q : Pt) : Int := (p.x - q.x) * (p.x - q.x) + (p.y - q.y) * (p.y - q.y) + (p.z - q.z) * (p.z - q.z)
def dist (p q : Pt) : Int := bsr 17 (sq p q) 0 70000

theorem sq_bound {p q : Pt} (hp : p.ok = true) (hq : q.ok = true) : 0 ≤ sq p q ∧ sq p q ≤ 4800000000 := by
  rw [Pt.ok_iff] at hp hq
  have hs : ∀ a : Int, -40000 ≤ a → a ≤ 40000 → 0 ≤ a * a ∧ a * a ≤ 1600000000 := by
    intro a h1 h2
    refine ⟨?_, ?_⟩
    · rcases Int.le_total 0 a with h | h
      · exact Int.mul_nonneg h h
      · exact Int.mul_nonneg_of_nonpos_of_nonpos h h
    · rcases Int.le_total 0 a with h | h
      · have := Int.mul_le_mul h2 h2 h (by omega); omega
      · have := Int.mul_le_mul (show -a ≤ 40000 by omega) (show -a ≤ 40000 by omega) (by omega) (by omega)
        rw [Int.neg_mul_neg] at this; omega
  have h1 := hs (p.x - q.x) (by omega) (by omega)
  have h2 := hs (p.y - q.y) (by omega) (by omega)
  have h3 := hs (p.z - q.z) (by omega) (by omega)
  unfold sq
  omega

theorem dist_spec {p q : Pt} (hp : p.ok = true) (hq : q.ok = true) : 0 ≤ dist p q ∧ dist p q ≤ 70000 ∧ dist p q * dist p q ≤ sq p q ∧ sq p q < (dist p q + 1) * (dist p q + 1) := by
  have := sq_bound hp hq
  exact bsr_spec 17 (sq p q) 0 70000 (by omega) (by omega) (by omega) (by omega) (by decide)

theorem dist_eq {p q : Pt} (hp : p.ok = true) (hq : q.ok = true) : bsr 17 (sq p q) 0 80000 = dist p q := by
  have h0 := sq_bound hp hq
  have h1 := dist_spec hp hq
  have h2 := bsr_spec 17 (sq p q) 0 80000 (by omega) (by omega) (by omega) (by omega) (by decide)
  exact root_one h2.1 h1.1 h2.2.2.1 h2.2.2.2 h1.2.2.1 h1.2.2.2

/-- From a number on, by steps, up to another. -/
def prog (lo hi st : Int) : List Int := (List.range ((hi - lo) / st + 1).toNat).map fun (i : Nat) => lo + i * st

theorem prog_nil {lo hi st : Int} (h : hi < lo) (hs : 0 < st) : prog lo hi st = [] := by
  have : (hi - lo) / st < 0 := Int.ediv_neg_of_neg_of_pos (by omega) hs
  have : ((hi - lo) / st + 1).toNat = 0 := by omega
  simp [prog, this]

theorem prog_cons {lo hi st : Int} (h : lo ≤ hi) (hs : 0 < st) : prog lo hi st = lo :: prog (lo + st) hi st := by
  have h1 : (hi - (lo + st)) / st = (hi - lo) / st - 1 := by
    rw [show hi - (lo + st) = hi - lo + (-1) * st by omega, Int.add_mul_ediv_right _ _ (by omega)]
    omega
  have h2 : 0 ≤ (hi - lo) / st := Int.ediv_nonneg (by omega) (by omega)
  have h3 : ((hi - lo) / st + 1).toNat = ((hi - lo) / st).toNat + 1 := by omega
  have h4 : ((hi - (lo + st)) / st + 1).toNat = ((hi - lo) / st).toNat := by omega
  simp only [prog, h3, h4, List.range_succ_eq_map, List.map_cons, List.map_map, List.cons.injEq]
  refine ⟨by simp, List.map_congr_left fun i _ => ?_⟩
  simp only [Function.comp, Nat.succ_eq_add_one, Int.natCast_add, Int.natCast_one, Int.add_mul]
  omega

def zs (n : Net) (x y : Int) (z : Int) : List Pt := (prog z n.high.z n.step).map fun z => ⟨x, y, z⟩
def ys (n : Net) (x : Int) (y : Int) : List Pt := (prog y n.high.y n.step).flatMap fun y => zs n x y n.low.z
def xs (n : Net) (x : Int) : List Pt := (prog x n.high.x n.step).flatMap fun x => ys n x n.low.y
def lattice (n : Net) : List Pt := xs n n.low.x

def Net.stn (n : Net) (i : Int) : Stn := n.st.getD i.toNat ⟨⟨0, 0, 0⟩, 0⟩
def Net.slow (n : Net) (ph : Int) : Rg := if ph = 0 then n.s0 else n.s1
def travel (n : Net) (i ph : Int) (p : Pt) : Rg := ⟨(n.slow ph).lo * dist (n.stn i).p p / 1000, ((n.slow ph).hi * (dist (n.stn i).p p + 1) + 999) / 1000⟩
def Pick.ok (n : Net) (p : Pick) : Bool := Trem.inn p.st 0 (n.st.length - 1) && (decide (p.ph < 2) && p.t.inn (-100000000) 100000000)
def span (n : Net) (p : Pick) (q : Pt) : Rg := ⟨p.t.lo - (n.stn p.st).err - (travel n p.st p.ph q).hi, p.t.hi + (n.stn p.st).err - (travel n p.st p.ph q).lo⟩
def meet (a b : Rg) : Rg := ⟨max a.lo b.lo, min a.hi b.hi⟩
def common : List Rg → Rg
  | [] => ⟨0, 0⟩
  | r :: l => l.foldl meet r
def origin (n : Net) (l : List Pick) (q : Pt) : Rg := common (l.map fun p => span n p q)
def Rg.ne (r : Rg) : Bool := decide (r.lo ≤ r.hi)
def located (n : Net) (l : List Pick) : List Plc := (lattice n).filterMap fun p => if (origin n l p).ne then some ⟨p, origin n l p⟩ else none
/-- The error of a network with picks: 0 (none), 1 (wrong), 3 (too many). -/
def wrong (n : Net) (l : List Pick) : Int := if n.ok then (if 60 < l.length then 3 else if l.length = 0 ∨ allB l (Pick.ok n) = false then 1 else 0) else 1

end Go.Trem
