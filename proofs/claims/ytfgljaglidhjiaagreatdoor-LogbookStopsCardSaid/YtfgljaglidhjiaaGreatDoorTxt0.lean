/- What functions of the program answer, and what follows; part 0. -/
import Derived.Test.YtfgljaglidhjiaaGreatDoorBase4
import Derived.Test.YtfgljaglidhjiaaGreatDoorTab
/-
  'All' of a list by a function that changes the store as it goes.
-/
set_option linter.unusedVariables false
set_option linter.unusedSimpArgs false
namespace Go.Abs
open Go
variable {T : Tbl}

/-- A search from i on through m elements: was one found, and how far did it come? -/
def scanQ (q : Nat → Bool) (i : Nat) : Nat → Bool × Nat
  | 0 => (false, i)
  | m + 1 => if q i then (true, i + 1) else scanQ q (i + 1) m
section
variable {α : Type} (E : Elt α) {fv : D} {l : List α} {q : Nat → Bool} {S : Nat → Stack}

end
end Go.Abs

/-
  'All' of a slice that lies in the store.
-/
set_option linter.unusedVariables false
set_option linter.unusedSimpArgs false
namespace Go.Abs
open Go
variable {T : Tbl}

section
variable {α : Type} {w : Nat} {enc : α → List D} (hw : ∀ x, (enc x).length = w) {p : α → Bool} {fv : D} {l : List α} {lv bi v : Nat} {F : List Blk}

include hw in
end
end Go.Abs

/-
  Layers 2 and 5 in plain Lean: fields, models, beds; what is valid; pressures, flows, ticks, runs. No program in sight.
-/
set_option linter.unusedVariables false
set_option linter.unusedSimpArgs false
namespace Go.Rock
open Go Go.Abs

structure Fld where
  x : Int
  y : Int
  z : Int
  k : Int
structure Rw where
  t : Int
  p : Int
  l : Int
  v : Int
  s : Int
structure Bore where
  b : Int
  h : Int
  m : Int
structure Bed where
  f : Fld
  tab : List Rw
  stiff : Int
  lift : Int
  deep : Int
  wells : List Bore
structure Mdl where
  name : List UInt8
  vals : List Int
structure Blk where
  m : Int
  h : Int
  k : Int
@[simp] theorem Fld.eta (p : Fld) : Fld.mk p.x p.y p.z p.k = p := rfl
@[simp] theorem Rw.eta (p : Rw) : Rw.mk p.t p.p p.l p.v p.s = p := rfl
@[simp] theorem Bore.eta (p : Bore) : Bore.mk p.b p.h p.m = p := rfl
@[simp] theorem Blk.eta (p : Blk) : Blk.mk p.m p.h p.k = p := rfl
@[simp] def Fld.enc (f : Fld) : List D := [.int .i64 f.x, .int .i64 f.y, .int .i64 f.z, .int .i64 f.k]
@[simp] def Rw.enc (r : Rw) : List D := [.int .i64 r.t, .int .i64 r.p, .int .i64 r.l, .int .i64 r.v, .int .i64 r.s]
@[simp] def Bore.enc (r : Bore) : List D := [.int .i64 r.b, .int .i64 r.h, .int .i64 r.m]
@[simp] def Blk.enc (r : Blk) : List D := [.int .i64 r.m, .int .i64 r.h, .int .i64 r.k]
@[simp] def intE (n : Int) : List D := [.int .i64 n]
@[simp] def Bed.enc (b : Bed) : List D := [.int .i64 b.f.x, .int .i64 b.f.y, .int .i64 b.f.z, .int .i64 b.f.k, .lst b.tab.length (b.tab.flatMap Rw.enc), .int .i64 b.stiff, .int .i64 b.lift, .int .i64 b.deep, .lst b.wells.length (b.wells.flatMap Bore.enc)]
@[simp] def Mdl.enc (m : Mdl) : List D := [.str m.name, .lst m.vals.length (m.vals.flatMap intE)]
def stE (s : List Blk) : D := .lst s.length (s.flatMap Blk.enc)
def inE (s : List Int) : D := .lst s.length (s.flatMap intE)

def inn (n lo hi : Int) : Bool := decide (lo ≤ n) && decide (n ≤ hi)
def Fld.size (f : Fld) : Int := f.x * f.y * f.z
def Fld.valid (f : Fld) : Bool := inn f.x 1 8 && (inn f.y 1 8 && (inn f.z 1 8 && (decide (f.size ≤ 64) && inn f.k 1 6)))
theorem Fld.valid_iff {f : Fld} : f.valid = true ↔ (1 ≤ f.x ∧ f.x ≤ 8) ∧ (1 ≤ f.y ∧ f.y ≤ 8) ∧ (1 ≤ f.z ∧ f.z ≤ 8) ∧ f.size ≤ 64 ∧ (1 ≤ f.k ∧ f.k ≤ 6) := by
  simp [Fld.valid, inn, and_assoc]
def Fld.shape (f : Fld) : Int := if f.valid then 0 else 1

/-- Letters, and digits behind the first place. -/
def letter (c : UInt8) : Bool := decide (97 ≤ c.toNat) && decide (c.toNat ≤ 122)
def digit (c : UInt8) : Bool := decide (48 ≤ c.toNat) && decide (c.toNat ≤ 57)
def namedFrom (i : Nat) : List UInt8 → Bool
  | [] => true
  | c :: l => (letter c || (decide (i ≠ 0) && digit c)) && namedFrom (i + 1) l
def named (s : List UInt8) : Bool := namedFrom 0 s && inn s.length 1 16
/-- The error of a model. -/
def Fld.model (f : Fld) (m : Mdl) : Int := if named m.name then (if (m.vals.length : Int) = f.k * f.size ∧ allB m.vals (fun n => inn n (-100000) 100000) = true then 0 else 1) else 5
/-- The first error of a list; a name that was there is an error, too. -/
def Fld.each (f : Fld) (met : List (List UInt8)) : List Mdl → Int
  | [] => 0
  | m :: l => if f.model m = 0 then (if met.contains m.name then 6 else f.each (met ++ [m.name]) l) else f.model m
def Fld.models (f : Fld) (l : List Mdl) : Int := if inn l.length 1 40 then f.each [] l else 3
def checkModels (f : Fld) (l : List Mdl) : Int := if f.valid then f.models l else 1

def Rw.alone (r : Rw) : Bool := inn r.t 0 400 && (inn r.p 1 10000 && (inn r.l 0 4000 && (inn r.s 0 2000 && (decide (r.l < r.v) && decide (r.v ≤ 4000)))))
def Rw.rises (o r : Rw) : Bool := !(decide (r.t ≤ o.t) || (decide (r.p ≤ o.p) || (decide (r.l ≤ o.l) || decide (r.s < o.s))))
def risesB : List Rw → Bool
  | o :: r :: l => o.rises r && risesB (r :: l)
  | _ => true
def tabOk (t : List Rw) : Bool := inn t.length 2 20 && (allB t Rw.alone && risesB t)

def Bore.ok (size : Int) (used : List Int) (w : Bore) : Bool := inn w.b 0 (size - 1) && (!used.contains w.b && (inn w.h 0 3000 && inn w.m 0 1000000))
def wellsOk (size : Int) (used : List Int) : List Bore → Bool
  | [] => true
  | w :: l => w.ok size used && wellsOk size (used ++ [w.b]) l
def Bed.size (b : Bed) : Int := b.f.size
def Bed.ok1 (b : Bed) : Bool := b.f.valid && (decide (4 ≤ b.f.k) && (tabOk b.tab && (inn b.stiff 1 100000 && (inn b.lift 0 1000 && (inn b.deep 0 3000 && decide (b.wells.length ≤ 8))))))
def Bed.valid (b : Bed) : Bool := b.ok1 && wellsOk b.size [] b.wells

def Bed.n (b : Bed) : Nat := b.size.toNat
def kindL (b : Bed) (m : Mdl) (k : Nat) : List Int := (m.vals.drop (k * b.n)).take b.n
def kindAt (b : Bed) (m : Mdl) (k : Nat) (i : Nat) : Int := (m.vals[k * b.n + i]?).getD 0
def hold (b : Bed) (m : Mdl) (i : Nat) : Int := kindAt b m 0 i
def opn (b : Bed) (m : Mdl) (i : Nat) : Int := kindAt b m 1 i
def warm (b : Bed) (m : Mdl) (i : Nat) : Int := kindAt b m 2 i
def feed (b : Bed) (m : Mdl) (i : Nat) : Int := kindAt b m 3 i
def fits (b : Bed) (m : Mdl) : Bool := decide (checkModels b.f [m] = 0) && (allB (kindL b m 0) (fun n => inn n 1000 100000) && (allB (kindL b m 1) (fun n => inn n 0 1000) && (allB (kindL b m 2) (fun n => inn n 0 3000) && allB (kindL b m 3) (fun n => inn n 0 1000))))
/-- A bed with a model that fits. -/
def Bd (b : Bed) (m : Mdl) : Bool := b.valid && fits b m

def firstSt (b : Bed) (m : Mdl) : List Blk := (List.range b.n).map fun i => ⟨hold b m i, hold b m i * warm b m i, 0⟩
def Blk.valid (x : Blk) : Bool := inn x.m 1 1000000 && (inn x.h 0 10000000000 && inn x.k 0 1000000000000)
def stateOk (b : Bed) (s : List Blk) : Bool := decide ((s.length : Int) = b.size) && allB s Blk.valid
def weight (b : Bed) (i : Nat) : Int := ((i / (b.f.x.toNat * b.f.y.toNat) : Nat) : Int) * b.lift
def down (n d : Int) : Int := n / d
def blkAt (s : List Blk) (i : Nat) : Blk := (s[i]?).getD ⟨0, 0, 0⟩
def pressStep (x : Blk) (out : Int) (r : Rw) : Int := if r.l * x.m ≤ x.h then max out r.p else out
def pressure (b : Bed) (m : Mdl) (s : List Blk) (i : Nat) : Int :=
  b.tab.foldl (pressStep (blkAt s i)) (max 0 (weight b i + down (b.stiff * ((blkAt s i).m - hold b m i)) (hold b m i)))
def pressures (b : Bed) (m : Mdl) (s : List Blk) : List Int := (List.range s.length).map (pressure b m s)

def linksAt (b : Bed) (i : Nat) : List (Nat × Nat) :=
  (if (i + 1) % b.f.x.toNat ≠ 0 then [(i, i + 1)] else []) ++ ((if i / b.f.x.toNat % b.f.y.toNat ≠ b.f.y.toNat - 1 then [(i, i + b.f.x.toNat)] else []) ++ (if i + b.f.x.toNat * b.f.y.toNat < b.n then [(i, i + b.f.x.toNat * b.f.y.toNat)] else []))
def links (b : Bed) : List (Nat × Nat) := (List.range b.n).flatMap (linksAt b)
def Blk.out (x : Blk) (m : Int) : Blk := ⟨m, (x.h * m).tdiv x.m, (x.k * m).tdiv x.m⟩
def Blk.move (x o : Blk) (sign : Int) : Blk := ⟨x.m + sign * o.m, x.h + sign * o.h, x.k + sign * o.k⟩
/-- What goes over a link: from where, to where, what; or nothing. -/
def flowAt (b : Bed) (m : Mdl) (s : List Blk) (p : List Int) (l : Nat × Nat) : Option ((Nat × Nat) × Blk) :=
  let d := (p[l.1]?).getD 0 - weight b l.1 - (p[l.2]?).getD 0 + weight b l.2
  let l' := if d < 0 then (l.2, l.1) else l
  let d' := if d < 0 then -d else d
  let q := min ((min (opn b m l'.1) (opn b m l'.2) * d').tdiv 1000) ((blkAt s l'.1).m.tdiv 8)
  if 0 < q then some (l', (blkAt s l'.1).out q) else none
def putL (es : List ((Nat × Nat) × Blk)) (k : Nat × Nat) (o : Blk) : List ((Nat × Nat) × Blk) :=
  match es.findIdx? (fun e => e.1 == k) with
  | some j => es.set j (k, o)
  | none => es ++ [(k, o)]
def flowStep (b : Bed) (m : Mdl) (s : List Blk) (p : List Int) (es : List ((Nat × Nat) × Blk)) (l : Nat × Nat) : List ((Nat × Nat) × Blk) :=
  match flowAt b m s p l with
  | some e => putL es e.1 e.2
  | none => es
def flows (b : Bed) (m : Mdl) (s : List Blk) : List ((Nat × Nat) × Blk) := (links b).foldl (flowStep b m s (pressures b m s)) []
def moveAt (s : List Blk) (i : Nat) (o : Blk) (sign : Int) : List Blk := s.set i ((blkAt s i).move o sign)
def flowMove (s : List Blk) (e : (Nat × Nat) × Blk) : List Blk := moveAt (moveAt s e.1.1 e.2 (-1)) e.1.2 e.2 1
def Bore.given (w : Bore) (rate : Int) : Blk := ⟨-rate, -rate * w.h, -rate * w.m⟩
def wellYield (s : List Blk) (w : Bore) (rate : Int) : Blk := if rate < 0 then ⟨0, 0, 0⟩ else (blkAt s w.b.toNat).out (min rate ((blkAt s w.b.toNat).m.tdiv 8))
def wellMove (s next : List Blk) (w : Bore) (rate : Int) : List Blk := if rate < 0 then moveAt next w.b.toNat (w.given rate) 1 else moveAt next w.b.toNat (wellYield s w rate) (-1)
def fed (b : Bed) (m : Mdl) (i : Nat) : Blk := ⟨feed b m i, feed b m i * b.deep, 0⟩
def nextSt (b : Bed) (m : Mdl) (s : List Blk) (rates : List Int) : List Blk :=
  let s1 := (flows b m s).foldl flowMove s
  let s2 := (b.wells.zip rates).foldl (fun n wr => wellMove s n wr.1 wr.2) s1
  (List.range s.length).foldl (fun n i => moveAt n i (fed b m i) 1) s2
def yieldsOf (b : Bed) (s : List Blk) (rates : List Int) : List Blk := (b.wells.zip rates).map fun wr => wellYield s wr.1 wr.2
/-- A tick: the next state and the yields; or a failure. -/
def tick (b : Bed) (m : Mdl) (s : List Blk) (rates : List Int) : Option (List Blk × List Blk) :=
  if stateOk b (nextSt b m s rates) then some (nextSt b m s rates, yieldsOf b s rates) else none
def ratesE (b : Bed) (l : List Int) : Int := if l.length = b.wells.length then (if allB l (fun n => inn n (-100000) 100000) then 0 else 2) else 1
def firstE {α : Type} (f : α → Int) : List α → Int
  | [] => 0
  | x :: l => if f x = 0 then firstE f l else f x
def planE (b : Bed) (plan : List (List Int)) : Int := if 200 < plan.length then 3 else firstE (ratesE b) plan
/-- A run from states and yields on. -/
def runFrom (b : Bed) (m : Mdl) : List (List Blk) → List (List Blk) → List Blk → List (List Int) → Option (List (List Blk) × List (List Blk))
  | ss, ys, _, [] => some (ss, ys)
  | ss, ys, s, r :: plan =>
    match tick b m s r with
    | some (s', y) => runFrom b m (ss ++ [s']) (ys ++ [y]) s' plan
    | none => none
def run (b : Bed) (m : Mdl) (plan : List (List Int)) : Option (List (List Blk) × List (List Blk)) := runFrom b m [firstSt b m] [] (firstSt b m) plan
end Go.Rock

/-
  Layer 12 in plain Lean: numbers, words, lines. No program in sight.
-/
set_option linter.unusedVariables false
set_option linter.unusedSimpArgs false
namespace Go.Book
open Go Go.Abs Go.Rock

/-- A whole number in its range; as it is written by the machine. -/
def num? (s : List UInt8) : Option Int := if ((atoiF s).1 = 0 ∧ itoaF (atoiF s).2 = s) ∧ inn (atoiF s).2 (-999999999) 999999999 = true then some (atoiF s).2 else none
def nums? : List (List UInt8) → Option (List Int)
  | [] => some []
  | s :: l => match num? s with
    | some n => (nums? l).map (n :: ·)
    | none => none

/-- A word: is there a name; how many numbers at least; more in steps; which. -/
structure Wd where
  named : Bool
  least : Int
  step : Int
  k : Nat
def wordL : List (List UInt8 × Wd) := [
  ([102, 105, 101, 108, 100], ⟨false, 4, 0, 0⟩), ([116, 97, 98, 108, 101], ⟨false, 0, 5, 1⟩), ([98, 101, 100], ⟨false, 3, 0, 2⟩), ([119, 101, 108, 108], ⟨false, 3, 0, 3⟩),
  ([109, 111, 100, 101, 108], ⟨true, 0, 1, 4⟩), ([108, 111, 103], ⟨true, 3, 2, 5⟩), ([114, 117, 108, 101], ⟨false, 10, 0, 6⟩), ([107, 101, 101, 112], ⟨false, 3, 0, 7⟩),
  ([113, 117, 97, 107, 101], ⟨false, 0, 4, 8⟩), ([116, 105, 99, 107], ⟨false, 0, 1, 9⟩), ([114, 101, 97, 100], ⟨false, 4, 0, 10⟩), ([117, 110, 105, 116], ⟨false, 1, 2, 11⟩), ([115, 101, 108, 108], ⟨false, 4, 0, 12⟩)]
def findW (s : List UInt8) : List (List UInt8 × Wd) → Option Wd
  | [] => none
  | (k, w) :: l => if s = k then some w else findW s l
def word? (s : List UInt8) : Option Wd := findW s wordL
def fitN (w : Wd) (n : Int) : Bool := decide (n - w.least = 0) || (decide (0 < n - w.least) && (decide (0 < w.step) && decide ((n - w.least).tmod w.step = 0)))
/-- A line's parts behind its word. -/
def parse2 (w : Wd) (name : List UInt8) (l : List (List UInt8)) : Option (Wd × List UInt8 × List Int) :=
  match nums? l with
  | some ns => if fitN w ns.length = true then some (w, name, ns) else none
  | none => none
def parse (s : List UInt8) : Option (Wd × List UInt8 × List Int) :=
  match splitF 32 s with
  | [] => none
  | a :: all => match word? a with
    | none => none
    | some w => if w.named = true then (match all with
      | [] => none
      | n :: r => parse2 w n r) else parse2 w [] all
end Go.Book

/-
  Layer 12 in plain Lean: records, the book as bytes, what is whole. No program in sight.
-/
set_option linter.unusedVariables false
set_option linter.unusedSimpArgs false
namespace Go.Book
open Go Go.Abs

def bE (b : UInt8) : List D := [.int .u8 b.toNat]
theorem strCells_eq (s : List UInt8) : strCells s = s.flatMap bE := by
  induction s with
  | nil => rfl
  | cons b s ih => simp only [strCells, List.map_cons, List.flatMap_cons, bE, List.singleton_append] at ih ⊢; rw [ih]
def sumFrom : Nat → List UInt8 → Nat
  | n, [] => n
  | n, c :: s => sumFrom ((31 * n + c.toNat) % 65521) s
def sumF (s : List UInt8) : Nat := sumFrom 1 s
theorem sumFrom_lt : ∀ {s : List UInt8} {n : Nat}, n < 65521 → sumFrom n s < 65521
  | [], n, h => h
  | c :: s, n, h => sumFrom_lt (s := s) (Nat.mod_lt _ (by omega))
theorem sumF_lt {s : List UInt8} : sumF s < 65521 := sumFrom_lt (by omega)
def by8 (n : Nat) : UInt8 := UInt8.ofNat n
theorem by8_nat {n : Nat} (h : n < 256) : (by8 n).toNat = n := by simp [by8]; omega
/-- The record of a line. -/
def headF (n : Nat) : List UInt8 := [by8 (n / 256), by8 (n % 256), by8 (255 - n / 256), by8 (255 - n % 256)]
def tailF (s : List UInt8) : List UInt8 := [by8 (sumF s / 256), by8 (sumF s % 256)]
def recF (s : List UInt8) : List UInt8 := headF s.length ++ s ++ tailF s
theorem recF_len (s : List UInt8) : (recF s).length = s.length + 6 := by simp [recF, headF, tailF]
def bookF (l : List (List UInt8)) : List UInt8 := l.flatMap recF
/-- The first line of what is whole, and what is behind it. -/
def stepF (b : List UInt8) : Option (List UInt8 × List UInt8) :=
  match b with
  | x :: y :: r =>
    if 6 ≤ b.length ∧ x.toNat * 256 + y.toNat ≤ 4000 ∧ x.toNat * 256 + y.toNat + 6 ≤ b.length then
      (if recF ((b.drop 4).take (x.toNat * 256 + y.toNat)) = b.take (x.toNat * 256 + y.toNat + 6) then some ((b.drop 4).take (x.toNat * 256 + y.toNat), b.drop (x.toNat * 256 + y.toNat + 6)) else none)
    else none
  | _ => none
theorem stepF_some {b s r : List UInt8} (h : stepF b = some (s, r)) : b = recF s ++ r ∧ s.length ≤ 4000 := by
  unfold stepF at h
  split at h
  · rename_i x y t
    split at h
    · rename_i h1
      split at h
      · rename_i h2
        cases h
        obtain ⟨h3, h4, h5⟩ := h1
        refine ⟨?_, by simp; omega⟩
        rw [h2, List.take_append_drop]
      · cases h
    · cases h
  · cases h
theorem recF_head {s : List UInt8} : ∃ x y r, recF s = x :: y :: r ∧ (s.length < 65536 → x.toNat * 256 + y.toNat = s.length) := by
  refine ⟨_, _, _, rfl, fun h => ?_⟩
  rw [by8_nat (by omega), by8_nat (by omega)]; omega
theorem stepF_rec {s r : List UInt8} (h : s.length ≤ 4000) : stepF (recF s ++ r) = some (s, r) := by
  obtain ⟨x, y, t, he, hn⟩ := recF_head (s := s)
  have hn := hn (by omega)
  have hl := recF_len s
  have h1 : ((recF s ++ r).drop 4).take s.length = s := by
    have : recF s = headF s.length ++ (s ++ tailF s) := by simp [recF]
    rw [this, List.append_assoc, show (4 : Nat) = (headF s.length).length from rfl, List.drop_left, List.append_assoc, List.take_left]
  have h2 : (recF s ++ r).take (s.length + 6) = recF s := by rw [← hl, List.take_left]
  have h3 : (recF s ++ r).drop (s.length + 6) = r := by rw [← hl, List.drop_left]
  have hb : recF s ++ r = x :: y :: (t ++ r) := by rw [he]; rfl
  unfold stepF
  split
  · rename_i x' y' r' hb'
    rw [hb] at hb'
    cases hb'
    rw [hn]
    have h4 : 6 ≤ (recF s ++ r).length ∧ s.length ≤ 4000 ∧ s.length + 6 ≤ (recF s ++ r).length := by simp [hl]; omega
    rw [if_pos h4, h1, h2, h3, if_pos rfl]
  · rename_i hno
    exact absurd hb (hno x y (t ++ r))
/-- What is whole: its lines. (n: at most so many.) -/
def recov : Nat → List UInt8 → List (List UInt8)
  | 0, _ => []
  | n + 1, b => match stepF b with
    | some (s, r) => s :: recov n r
    | none => []
theorem recov_book : ∀ {l : List (List UInt8)} {n : Nat}, l.length ≤ n → (∀ s ∈ l, s.length ≤ 4000) → recov n (bookF l) = l
  | [], n, _, _ => by
    cases n with
    | zero => rfl
    | succ n => rfl
  | s :: l, n, hn, hs => by
    obtain ⟨n, rfl⟩ : ∃ m, n = m + 1 := ⟨n - 1, by simp at hn; omega⟩
    simp only [bookF, List.flatMap_cons, recov]
    rw [stepF_rec (hs s (by simp))]
    simp only
    rw [← bookF, recov_book (l := l) (by simpa using hn) (fun x hx => hs x (by simp [hx]))]
end Go.Book

/-
  What bytes need of the other texts.
-/
set_option linter.unusedVariables false
set_option linter.unusedSimpArgs false
namespace Go.Proofs.YtfgljaglidhjiaaGreatDoor
open Go Go.Abs Go.Book
variable {σ : Stack}

theorem WC_eq {O : Oracle} {c c' : Cmd} (hc : c = c') {e : Env} {σ : Stack} {Q : Abs.Exit → Env → Stack → Prop} : WC O c e σ Q .mk .mk = WC O c' e σ Q .mk .mk := by subst hc; rfl
@[simp] def strE (s : List UInt8) : List D := [.str s]
theorem str_map (l : List (List UInt8)) : l.map D.str = l.flatMap strE := by induction l with | nil => rfl | cons s l ih => simp [ih]
/-- A slice of the newest segment, written out, at any depth. -/
theorem k_out {α : Type} {f : α → List D} {w n : Nat} (hn : 1 < n) (hw : ∀ x, (f x).length = w) (hc : ∀ x, D.cleanL (f x) = true) {l : List α} {j v : Nat} {bs : List Abs.Blk} (hσ : σ ≠ []) (hj : bs[j]? = some (.cells v (l.flatMap f))) :
    frz (σ.length - 1) n (.sl σ.length j v 0 l.length w) (bs :: σ) = (.lst l.length (l.flatMap f), bs.set j .dead :: σ) := by
  have h3 : ¬ σ.length ≤ σ.length - 1 := by have := List.length_pos_iff.2 hσ; omega
  rw [frz_sl h3 (cs := l.flatMap f) (by simp [hj]) (by omega)]
  have h4 : 0 < n - 1 := by omega
  simp [k_self hw l, k_clean hc l, h4]

theorem frz_pair {l u n w : Nat} {k : Int} {S S' : Stack} {cs : List D} {i : Nat} (h : frz l 15 (.sl u i n 0 n w) S = (.lst n cs, S')) : frz l 16 (.tup [.sl u i n 0 n w, .int .i64 k]) S = (.tup [.lst n cs, .int .i64 k], S') := by
  rw [frz_tup (by rfl) (by omega)]
  simp only [frzL_cons, frzL_nil]
  rw [h, frz_clean (by rfl) (by omega)]
end Go.Proofs.YtfgljaglidhjiaaGreatDoor

/-
  What the functions on bytes answer: sum, record, written, Equal, check.
-/
set_option linter.unusedVariables false
set_option linter.unusedSimpArgs false
namespace Go.Proofs.YtfgljaglidhjiaaGreatDoor
open Go Go.Abs Go.Book
variable {σ : Stack}

/-- Few and short lines. -/
def okL' (l : List (List UInt8)) : Prop := l.length ≤ 100 ∧ ∀ s ∈ l, s.length ≤ 4000
theorem be_len (l : List UInt8) : (l.flatMap bE).length = l.length := by have := flat_len (f := bE) (w := 1) (fun _ => rfl) l; omega
theorem cl_be {l : List UInt8} : D.cleanL (l.flatMap bE) = true := k_clean (f := bE) (fun x => by simp [bE, D.clean]) l
theorem be_at {l : List UInt8} {i : Nat} {b : UInt8} (h : l[i]? = some b) : ((l.flatMap bE).drop i).take 1 = [.int .u8 b.toNat] := by
  have := flat_at (f := bE) (w := 1) (fun _ => rfl) h
  rwa [Nat.mul_one] at this
theorem be_lt (b : UInt8) : b.toNat < 256 := b.toNat_lt
theorem L_sum {s : List UInt8} (hl : s.length ≤ 1000000) : ∀ (m i n : Nat), i + m = s.length → n < 65521 →
    WL T [3, 7, 8, 9] false f_logbook_sum_l7 [(3, .int .i64 n), (7, .lst s.length (s.flatMap bE)), (8, .int .i64 s.length), (9, .int .i64 i)] σ
      (fun x e σ' => x = .exit 0 ∧ σ' = σ ∧ get e 3 = .int .i64 (sumFrom n (s.drop i)))
  | 0, i, n, hi, hn => by
    refine WL_step e_logbook_sum_l7 ?_
    have h1 : ¬ i < s.length := by omega
    have h2 : s.drop i = [] := List.drop_eq_nil_of_le (by omega)
    simp [-List.length_flatMap, -List.map_take, eF, h1, h2, sumFrom]
  | m + 1, i, n, hi, hn => by
    refine WL_step e_logbook_sum_l7 ?_
    have h1 : i < s.length := by omega
    obtain ⟨c, hc⟩ : ∃ c, s[i]? = some c := ⟨_, List.getElem?_eq_getElem h1⟩
    have a1 := be_at hc
    have h4 := wnext h1 (by omega)
    have hb := be_lt c
    have w0 : IntKind.i64.wrap (c.toNat : Int) = c.toNat := w64 (by omega)
    have w1 : IntKind.i64.wrap (31 * (n : Int)) = 31 * n := w64 (by omega)
    have w2 : IntKind.i64.wrap (31 * (n : Int) + c.toNat) = 31 * n + c.toNat := w64 (by omega)
    have w3 : (31 * (n : Int) + c.toNat).tmod 65521 = (((31 * n + c.toNat) % 65521 : Nat) : Int) := by rw [Int.tmod_eq_emod_of_nonneg (by omega)]; omega
    rw [drop_at hc, sumFrom]
    simp [-List.length_flatMap, -List.map_take, eF, h1, a1, h4, w0, w1, w2, w3]
    exact WL.to (L_sum hl m (i + 1) ((31 * n + c.toNat) % 65521) (by omega) (Nat.mod_lt _ (by omega))) (by simp) rfl fun x e σ' hh => by simpa using hh
theorem C_sum' {s : List UInt8} (hl : s.length ≤ 1000000) : lim T (.call false i_logbook_sum [.str s] σ) = some (.val (.int .i64 (sumF s)) σ) := by
  refine call_of T_logbook_sum e_logbook_sum rfl ?_
  simp [-List.length_flatMap, -List.map_take, eF, meD, strCells_eq]
  refine WL.to (L_sum (σ := [] :: σ) hl s.length 0 1 (by omega) (by omega)) (by simp) rfl ?_
  rintro x e σ' ⟨rfl, rfl, g3⟩
  simp [-List.length_flatMap, -List.map_take, eF, g3, sumF]
theorem C_record {s : List UInt8} (hl : s.length ≤ 4000) (hσ : σ ≠ []) : lim T (.call false i_logbook_record [.str s] σ) = some (.val (.lst (recF s).length ((recF s).flatMap bE)) σ) := by
  refine call_of T_logbook_record e_logbook_record rfl ?_
  have hS := fun σ => C_sum' (σ := σ) (s := s) (by omega)
  have hb := sumF_lt (s := s)
  obtain ⟨h, hh⟩ : ∃ h, h = s.length / 256 := ⟨_, rfl⟩
  obtain ⟨lo, hlo⟩ : ∃ h, h = s.length % 256 := ⟨_, rfl⟩
  obtain ⟨ch, hch⟩ : ∃ h, h = sumF s / 256 := ⟨_, rfl⟩
  obtain ⟨cl, hcl⟩ : ∃ h, h = sumF s % 256 := ⟨_, rfl⟩
  have hrec : recF s = [by8 h, by8 lo, by8 (255 - h), by8 (255 - lo)] ++ s ++ [by8 ch, by8 cl] := by rw [hh, hlo, hch, hcl]; rfl
  have e8 : (2 : Int) ^ min 8 IntKind.i64.bits = 256 := by decide
  have f1 : (s.length : Int).fdiv 256 = (h : Int) := by rw [Int.fdiv_eq_ediv_of_nonneg _ (by omega)]; omega
  have f2 : (sumF s : Int).fdiv 256 = (ch : Int) := by rw [Int.fdiv_eq_ediv_of_nonneg _ (by omega)]; omega
  have w1 : IntKind.u8.wrap (h : Int) = h := wu8 (by omega)
  have w2 : IntKind.u8.wrap (s.length : Int) = lo := by
    show (s.length : Int) % 256 = _
    omega
  have w3 : IntKind.u8.wrap (ch : Int) = ch := wu8 (by omega)
  have w4 : IntKind.u8.wrap (sumF s : Int) = cl := by
    show (sumF s : Int) % 256 = _
    omega
  have y1 : (by8 h).toNat = h := by8_nat (by omega)
  have y2 : (by8 lo).toNat = lo := by8_nat (by omega)
  have y3 : (by8 (255 - h)).toNat = 255 - h := by8_nat (by omega)
  have y4 : (by8 (255 - lo)).toNat = 255 - lo := by8_nat (by omega)
  have y5 : (by8 ch).toNat = ch := by8_nat (by omega)
  have y6 : (by8 cl).toNat = cl := by8_nat (by omega)
  obtain ⟨h', hh'⟩ : ∃ x, x = 255 - h := ⟨_, rfl⟩
  obtain ⟨lo', hlo'⟩ : ∃ x, x = 255 - lo := ⟨_, rfl⟩
  have x1 := unD_xor8 (n := h) (by omega)
  have x2 := unD_xor8 (n := lo) (by omega)
  rw [← hh'] at x1 y3 hrec
  rw [← hlo'] at x2 y4 hrec
  have r1 : 4 + s.length ≤ room := by unfold room; omega
  have r2 : 4 + s.length + 2 ≤ room := by unfold room; omega
  have hbl := be_len s
  have q1 : 4 + s.length ≤ s.length + 1 + 1 + 1 + 1 := by omega
  have tk : List.take (4 + s.length) (D.int .u8 h :: .int .u8 lo :: .int .u8 h' :: .int .u8 lo' :: s.flatMap bE) = D.int .u8 h :: .int .u8 lo :: .int .u8 h' :: .int .u8 lo' :: s.flatMap bE := List.take_of_length_le (by simp only [List.length_cons, be_len]; omega)
  have hrl : (recF s).length = 4 + s.length + 2 := by rw [recF_len]; omega
  have hrE : (recF s).flatMap bE = D.int .u8 h :: .int .u8 lo :: .int .u8 h' :: .int .u8 lo' :: (s.flatMap bE ++ [.int .u8 ch, .int .u8 cl]) := by rw [hrec]; simp [bE, y1, y2, y3, y4, y5, y6]
  have hk := Go.Abs.k_out (f := bE) (w := 1) (fun _ => rfl) (fun _ => by simp [bE, D.clean]) (l := recF s) (j := 0) (v := 2) (bs := [.cells 2 ((recF s).flatMap bE)]) (σ := σ) hσ (by simp)
  rw [hrl, hrE] at hk
  rw [hrl, hrE]
  simp [-List.length_flatMap, -List.map_take, eF, puD, hS, e8, f1, f2, w1, w2, w3, w4, x1, x2, strCells_eq, r1, r2, hbl, q1, tk]
  exact ⟨_, hk⟩
theorem L_written {l : List (List UInt8)} (hl : okL' l) : ∀ (m i : Nat) (acc : List UInt8), i + m = l.length → acc.length ≤ 4006 * i →
    WL T [2, 5, 6, 7] false f_logbook_written_l6 [(2, .sl σ.length 0 i 0 acc.length 1), (5, .lst l.length (l.flatMap strE)), (6, .int .i64 l.length), (7, .int .i64 i)] ([.cells i (acc.flatMap bE)] :: σ)
      (fun x e σ' => x = .exit 0 ∧ get e 2 = .sl σ.length 0 l.length 0 (acc ++ bookF (l.drop i)).length 1 ∧ σ' = [.cells l.length ((acc ++ bookF (l.drop i)).flatMap bE)] :: σ)
  | 0, i, acc, hi, ha => by
    refine WL_step e_logbook_written_l6 ?_
    obtain rfl : i = l.length := by omega
    have h2 : l.drop l.length = [] := List.drop_eq_nil_of_le (by omega)
    simp [-List.length_flatMap, -List.map_take, eF, h2, bookF]
  | m + 1, i, acc, hi, ha => by
    refine WL_step e_logbook_written_l6 ?_
    have h1 : i < l.length := by omega
    obtain ⟨s, hs⟩ : ∃ s, l[i]? = some s := ⟨_, List.getElem?_eq_getElem h1⟩
    have a1 := flat_at (f := strE) (w := 1) (fun _ => rfl) hs
    simp only [strE, Nat.mul_one] at a1
    have h4 := wnext h1 (by have := hl.1; omega)
    have hsl := hl.2 s (List.mem_of_getElem? hs)
    have hC := fun S hS => C_record (σ := S) hsl hS
    have hrl := recF_len s
    have hbl := be_len acc
    have hbl2 := be_len (recF s)
    have hr : acc.length + (recF s).length ≤ room := by have := hl.1; unfold room; omega
    have tk : (acc.flatMap bE).take acc.length = acc.flatMap bE := List.take_of_length_le (by omega)
    have ih := L_written hl m (i + 1) (acc ++ recF s) (by omega) (by simp; omega)
    rw [drop_at hs]
    have hbk : bookF (s :: l.drop (i + 1)) = recF s ++ bookF (l.drop (i + 1)) := rfl
    rw [hbk]
    simp [-List.length_flatMap, -List.map_take, eF, h1, a1, h4, hC, hr, hbl, hbl2, tk]
    exact WL.to ih (by simp) (by simp) fun x e σ' hh => by simpa using hh
theorem C_written {l : List (List UInt8)} (hl : okL' l) (hσ : σ ≠ []) : lim T (.call false i_logbook_written [.lst l.length (l.flatMap strE)] σ) = some (.val (.lst (bookF l).length ((bookF l).flatMap bE)) σ) := by
  refine call_of T_logbook_written e_logbook_written rfl ?_
  have hL := L_written (σ := σ) hl l.length 0 [] (by omega) (by simp)
  simp [-List.length_flatMap, -List.map_take, eF]
  refine WL.to hL (by simp) (by simp) ?_
  rintro x e σ' ⟨rfl, g2, rfl⟩
  simp only [List.drop_zero, List.nil_append] at g2
  have hk := Go.Abs.k_out (f := bE) (w := 1) (fun _ => rfl) (fun _ => by simp [bE, D.clean]) (l := bookF l) (j := 0) (v := l.length) (bs := [.cells l.length ((bookF l).flatMap bE)]) (σ := σ) hσ (by simp)
  simp [-List.length_flatMap, -List.map_take, eF, g2, hk]
def eltStr : Elt (List UInt8) := ⟨false, 1, strE, fun s => .str s, fun _ => rfl, fun _ => by simp [strE], fun _ => rfl, fun _ => rfl, fun _ => rfl⟩
theorem C_check1 {s : List UInt8} : lim T (.call false i_logbook_check_1 [.str s] σ) = some (.val (.bool (decide (4000 < s.length))) σ) := by
  refine call_of T_logbook_check_1 e_logbook_check_1 rfl ?_
  have e : decide ((4000 : Int) < (s.length : Int)) = decide (4000 < s.length) := by
    by_cases h : 4000 < s.length
    · rw [decide_eq_true h, decide_eq_true (by omega)]
    · rw [decide_eq_false h, decide_eq_false (by omega)]
  simp [-List.length_flatMap, -List.map_take, eF, puD, e]
def okB (l : List (List UInt8)) : Bool := decide (l.length ≤ 100) && !anyB l (fun s => decide (4000 < s.length))
theorem C_check' {l : List (List UInt8)} (hl : l.length ≤ 1000000000) : lim T (.call false i_logbook_check [.lst l.length (l.flatMap strE)] σ) = some (.val (.int .i64 (if okB l then 0 else 3)) σ) := by
  refine call_of T_logbook_check e_logbook_check rfl ?_
  have hC := fun σ => contains_of eltStr (T := T) (f := i_slices_ContainsFunc_string) (i := i_slices_IndexFunc_string) (l := l) (p := fun s => decide (4000 < s.length)) (fv := .fn i_logbook_check_1 [] []) rfl rfl (by omega) (Tests.fn fun s _ σ => C_check1) (σ := σ)
  have hC' : ∀ σ, lim T (.call false i_slices_ContainsFunc_string [.lst l.length (l.flatMap strE), .fn i_logbook_check_1 [] []] σ) = some (.val (.bool (anyB l (fun s => decide (4000 < s.length)))) σ) := hC
  unfold okB
  by_cases h1 : l.length ≤ 100
  · have h2 : ¬ (100 : Int) < l.length := by omega
    cases h3 : anyB l (fun s => decide (4000 < s.length)) <;> rw [h3] at hC' <;> simp [-List.length_flatMap, -List.map_take, eF, h1, h2, hC']
  · have h2 : (100 : Int) < l.length := by omega
    simp [-List.length_flatMap, -List.map_take, eF, h1, h2]
theorem okB_iff {l : List (List UInt8)} : okB l = true ↔ okL' l := by
  unfold okB okL'
  simp only [Bool.and_eq_true, decide_eq_true_eq, Bool.not_eq_true']
  constructor
  · rintro ⟨h1, h2⟩
    refine ⟨h1, fun s hs => ?_⟩
    by_cases h : s.length ≤ 4000
    · exact h
    · have h3 : anyB l (fun s => decide (4000 < s.length)) = true := anyB_iff.2 ⟨s, hs, show decide (4000 < s.length) = true from decide_eq_true (by omega)⟩
      rw [h2] at h3; cases h3
  · rintro ⟨h1, h2⟩
    refine ⟨h1, ?_⟩
    cases h : anyB l (fun s => decide (4000 < s.length)) with
    | false => rfl
    | true =>
      obtain ⟨s, hs, h3⟩ := anyB_iff.1 h
      have := h2 s hs
      simp only [decide_eq_true_eq] at h3
      omega
theorem C_Write {l : List (List UInt8)} (hl : l.length ≤ 1000000000) (hσ : σ ≠ []) :
    lim T (.call false i_logbook_Write [.lst l.length (l.flatMap strE)] σ) = some (.val (.tup [if okB l then .lst (bookF l).length ((bookF l).flatMap bE) else .nils, .int .i64 (if okB l then 0 else 3)]) σ) := by
  refine call_of T_logbook_Write e_logbook_Write rfl ?_
  have h1 := fun σ => C_check' (σ := σ) hl
  cases hc : okB l
  · rw [hc] at h1
    simp [-List.length_flatMap, -List.map_take, eF, h1]
  · rw [hc] at h1
    have h2 := fun S hS => C_written (σ := S) (okB_iff.1 hc) hS
    simp [-List.length_flatMap, -List.map_take, eF, h1, h2, cl_be]
end Go.Proofs.YtfgljaglidhjiaaGreatDoor
