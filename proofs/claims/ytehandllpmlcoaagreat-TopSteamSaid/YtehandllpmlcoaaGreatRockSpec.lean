/-
  Layers 2 and 5 in plain Lean: fields, models, beds; what is valid; pressures, flows, ticks, runs. No program in sight.
-/
import Derived.Test.YtehandllpmlcoaaGreatBase3
set_option linter.unusedVariables false
set_option linter.unusedSimpArgs false
namespace Go.Rock
open Go Go.Abs

structure Fld where
  x : Int
  y : Int
  z : Int
  k : Int
structure Rw where
  t : Int
  p : Int
  l : Int
  v : Int
  s : Int
structure Bore where
  b : Int
  h : Int
  m : Int
structure Bed where
  f : Fld
  tab : List Rw
  stiff : Int
  lift : Int
  deep : Int
  wells : List Bore
structure Mdl where
  name : List UInt8
  vals : List Int
structure Blk where
  m : Int
  h : Int
  k : Int
@[simp] theorem Fld.eta (p : Fld) : Fld.mk p.x p.y p.z p.k = p := rfl
@[simp] theorem Rw.eta (p : Rw) : Rw.mk p.t p.p p.l p.v p.s = p := rfl
@[simp] theorem Bore.eta (p : Bore) : Bore.mk p.b p.h p.m = p := rfl
@[simp] theorem Blk.eta (p : Blk) : Blk.mk p.m p.h p.k = p := rfl
@[simp] def Fld.enc (f : Fld) : List D := [.int .i64 f.x, .int .i64 f.y, .int .i64 f.z, .int .i64 f.k]
@[simp] def Rw.enc (r : Rw) : List D := [.int .i64 r.t, .int .i64 r.p, .int .i64 r.l, .int .i64 r.v, .int .i64 r.s]
@[simp] def Bore.enc (r : Bore) : List D := [.int .i64 r.b, .int .i64 r.h, .int .i64 r.m]
@[simp] def Blk.enc (r : Blk) : List D := [.int .i64 r.m, .int .i64 r.h, .int .i64 r.k]
@[simp] def intE (n : Int) : List D := [.int .i64 n]
@[simp] def Bed.enc (b : Bed) : List D := [.int .i64 b.f.x, .int .i64 b.f.y, .int .i64 b.f.z, .int .i64 b.f.k, .lst b.tab.length (b.tab.flatMap Rw.enc), .int .i64 b.stiff, .int .i64 b.lift, .int .i64 b.deep, .lst b.wells.length (b.wells.flatMap Bore.enc)]
@[simp] def Mdl.enc (m : Mdl) : List D := [.str m.name, .lst m.vals.length (m.vals.flatMap intE)]
def stE (s : List Blk) : D := .lst s.length (s.flatMap Blk.enc)
def inE (s : List Int) : D := .lst s.length (s.flatMap intE)

def inn (n lo hi : Int) : Bool := decide (lo ≤ n) && decide (n ≤ hi)
theorem inn_iff {n lo hi : Int} : inn n lo hi = true ↔ lo ≤ n ∧ n ≤ hi := by simp [inn]

def Fld.size (f : Fld) : Int := f.x * f.y * f.z
def Fld.valid (f : Fld) : Bool := inn f.x 1 8 && (inn f.y 1 8 && (inn f.z 1 8 && (decide (f.size ≤ 64) && inn f.k 1 6)))
theorem Fld.valid_iff {f : Fld} : f.valid = true ↔ (1 ≤ f.x ∧ f.x ≤ 8) ∧ (1 ≤ f.y ∧ f.y ≤ 8) ∧ (1 ≤ f.z ∧ f.z ≤ 8) ∧ f.size ≤ 64 ∧ (1 ≤ f.k ∧ f.k ≤ 6) := by
  simp [Fld.valid, inn, and_assoc]
def Fld.shape (f : Fld) : Int := if f.valid then 0 else 1

/-- Letters, and digits behind the first place. -/
def letter (c : UInt8) : Bool := decide (97 ≤ c.toNat) && decide (c.toNat ≤ 122)
def digit (c : UInt8) : Bool := decide (48 ≤ c.toNat) && decide (c.toNat ≤ 57)
def namedFrom (i : Nat) : List UInt8 → Bool
  | [] => true
  | c :: l => (letter c || (decide (i ≠ 0) && digit c)) && namedFrom (i + 1) l
def named (s : List UInt8) : Bool := namedFrom 0 s && inn s.length 1 16
/-- The error of a model. -/
def Fld.model (f : Fld) (m : Mdl) : Int := if named m.name then (if (m.vals.length : Int) = f.k * f.size ∧ allB m.vals (fun n => inn n (-100000) 100000) = true then 0 else 1) else 5
/-- The first error of a list; a name that was there is an error, too. -/
def Fld.each (f : Fld) (met : List (List UInt8)) : List Mdl → Int
  | [] => 0
  | m :: l => if f.model m = 0 then (if met.contains m.name then 6 else f.each (met ++ [m.name]) l) else f.model m
def Fld.models (f : Fld) (l : List Mdl) : Int := if inn l.length 1 40 then f.each [] l else 3
def checkModels (f : Fld) (l : List Mdl) : Int := if f.valid then f.models l else 1

def Rw.alone (r : Rw) : Bool := inn r.t 0 400 && (inn r.p 1 10000 && (inn r.l 0 4000 && (inn r.s 0 2000 && (decide (r.l < r.v) && decide (r.v ≤ 4000)))))
def Rw.rises (o r : Rw) : Bool := !(decide (r.t ≤ o.t) || (decide (r.p ≤ o.p) || (decide (r.l ≤ o.l) || decide (r.s < o.s))))
def risesB : List Rw → Bool
  | o :: r :: l => o.rises r && risesB (r :: l)
  | _ => true
def tabOk (t : List Rw) : Bool := inn t.length 2 20 && (allB t Rw.alone && risesB t)

def Bore.ok (size : Int) (used : List Int) (w : Bore) : Bool := inn w.b 0 (size - 1) && (!used.contains w.b && (inn w.h 0 3000 && inn w.m 0 1000000))
def wellsOk (size : Int) (used : List Int) : List Bore → Bool
  | [] => true
  | w :: l => w.ok size used && wellsOk size (used ++ [w.b]) l
def Bed.size (b : Bed) : Int := b.f.size
def Bed.ok1 (b : Bed) : Bool := b.f.valid && (decide (4 ≤ b.f.k) && (tabOk b.tab && (inn b.stiff 1 100000 && (inn b.lift 0 1000 && (inn b.deep 0 3000 && decide (b.wells.length ≤ 8))))))
def Bed.valid (b : Bed) : Bool := b.ok1 && wellsOk b.size [] b.wells

def Bed.n (b : Bed) : Nat := b.size.toNat
def kindL (b : Bed) (m : Mdl) (k : Nat) : List Int := (m.vals.drop (k * b.n)).take b.n
def kindAt (b : Bed) (m : Mdl) (k : Nat) (i : Nat) : Int := (m.vals[k * b.n + i]?).getD 0
def hold (b : Bed) (m : Mdl) (i : Nat) : Int := kindAt b m 0 i
def opn (b : Bed) (m : Mdl) (i : Nat) : Int := kindAt b m 1 i
def warm (b : Bed) (m : Mdl) (i : Nat) : Int := kindAt b m 2 i
def feed (b : Bed) (m : Mdl) (i : Nat) : Int := kindAt b m 3 i
def fits (b : Bed) (m : Mdl) : Bool := decide (checkModels b.f [m] = 0) && (allB (kindL b m 0) (fun n => inn n 1000 100000) && (allB (kindL b m 1) (fun n => inn n 0 1000) && (allB (kindL b m 2) (fun n => inn n 0 3000) && allB (kindL b m 3) (fun n => inn n 0 1000))))
/-- A bed with a model that fits. -/
def Bd (b : Bed) (m : Mdl) : Bool := b.valid && fits b m

def firstSt (b : Bed) (m : Mdl) : List Blk := (List.range b.n).map fun i => ⟨hold b m i, hold b m i * warm b m i, 0⟩
def Blk.valid (x : Blk) : Bool := inn x.m 1 1000000 && (inn x.h 0 10000000000 && inn x.k 0 1000000000000)
def stateOk (b : Bed) (s : List Blk) : Bool := decide ((s.length : Int) = b.size) && allB s Blk.valid
def weight (b : Bed) (i : Nat) : Int := ((i / (b.f.x.toNat * b.f.y.toNat) : Nat) : Int) * b.lift
def down (n d : Int) : Int := n / d
def blkAt (s : List Blk) (i : Nat) : Blk := (s[i]?).getD ⟨0, 0, 0⟩
def pressStep (x : Blk) (out : Int) (r : Rw) : Int := if r.l * x.m ≤ x.h then max out r.p else out
def pressure (b : Bed) (m : Mdl) (s : List Blk) (i : Nat) : Int :=
  b.tab.foldl (pressStep (blkAt s i)) (max 0 (weight b i + down (b.stiff * ((blkAt s i).m - hold b m i)) (hold b m i)))
def pressures (b : Bed) (m : Mdl) (s : List Blk) : List Int := (List.range s.length).map (pressure b m s)

def linksAt (b : Bed) (i : Nat) : List (Nat × Nat) :=
  (if (i + 1) % b.f.x.toNat ≠ 0 then [(i, i + 1)] else []) ++ ((if i / b.f.x.toNat % b.f.y.toNat ≠ b.f.y.toNat - 1 then [(i, i + b.f.x.toNat)] else []) ++ (if i + b.f.x.toNat * b.f.y.toNat < b.n then [(i, i + b.f.x.toNat * b.f.y.toNat)] else []))
def links (b : Bed) : List (Nat × Nat) := (List.range b.n).flatMap (linksAt b)
def Blk.out (x : Blk) (m : Int) : Blk := ⟨m, (x.h * m).tdiv x.m, (x.k * m).tdiv x.m⟩
def Blk.move (x o : Blk) (sign : Int) : Blk := ⟨x.m + sign * o.m, x.h + sign * o.h, x.k + sign * o.k⟩
/-- What goes over a link: from where, to where, what; or nothing. -/
def flowAt (b : Bed) (m : Mdl) (s : List Blk) (p : List Int) (l : Nat × Nat) : Option ((Nat × Nat) × Blk) :=
  let d := (p[l.1]?).getD 0 - weight b l.1 - (p[l.2]?).getD 0 + weight b l.2
  let l' := if d < 0 then (l.2, l.1) else l
  let d' := if d < 0 then -d else d
  let q := min ((min (opn b m l'.1) (opn b m l'.2) * d').tdiv 1000) ((blkAt s l'.1).m.tdiv 8)
  if 0 < q then some (l', (blkAt s l'.1).out q) else none
def putL (es : List ((Nat × Nat) × Blk)) (k : Nat × Nat) (o : Blk) : List ((Nat × Nat) × Blk) :=
  match es.findIdx? (fun e => e.1 == k) with
  | some j => es.set j (k, o)
  | none => es ++ [(k, o)]
def flowStep (b : Bed) (m : Mdl) (s : List Blk) (p : List Int) (es : List ((Nat × Nat) × Blk)) (l : Nat × Nat) : List ((Nat × Nat) × Blk) :=
  match flowAt b m s p l with
  | some e => putL es e.1 e.2
  | none => es
def flows (b : Bed) (m : Mdl) (s : List Blk) : List ((Nat × Nat) × Blk) := (links b).foldl (flowStep b m s (pressures b m s)) []
def moveAt (s : List Blk) (i : Nat) (o : Blk) (sign : Int) : List Blk := s.set i ((blkAt s i).move o sign)
def flowMove (s : List Blk) (e : (Nat × Nat) × Blk) : List Blk := moveAt (moveAt s e.1.1 e.2 (-1)) e.1.2 e.2 1
def Bore.given (w : Bore) (rate : Int) : Blk := ⟨-rate, -rate * w.h, -rate * w.m⟩
def wellYield (s : List Blk) (w : Bore) (rate : Int) : Blk := if rate < 0 then ⟨0, 0, 0⟩ else (blkAt s w.b.toNat).out (min rate ((blkAt s w.b.toNat).m.tdiv 8))
def wellMove (s next : List Blk) (w : Bore) (rate : Int) : List Blk := if rate < 0 then moveAt next w.b.toNat (w.given rate) 1 else moveAt next w.b.toNat (wellYield s w rate) (-1)
def fed (b : Bed) (m : Mdl) (i : Nat) : Blk := ⟨feed b m i, feed b m i * b.deep, 0⟩
def nextSt (b : Bed) (m : Mdl) (s : List Blk) (rates : List Int) : List Blk :=
  let s1 := (flows b m s).foldl flowMove s
  let s2 := (b.wells.zip rates).foldl (fun n wr => wellMove s n wr.1 wr.2) s1
  (List.range s.length).foldl (fun n i => moveAt n i (fed b m i) 1) s2
def yieldsOf (b : Bed) (s : List Blk) (rates : List Int) : List Blk := (b.wells.zip rates).map fun wr => wellYield s wr.1 wr.2
/-- A tick: the next state and the yields; or a failure. -/
def tick (b : Bed) (m : Mdl) (s : List Blk) (rates : List Int) : Option (List Blk × List Blk) :=
  if stateOk b (nextSt b m s rates) then some (nextSt b m s rates, yieldsOf b s rates) else none
def ratesE (b : Bed) (l : List Int) : Int := if l.length = b.wells.length then (if allB l (fun n => inn n (-100000) 100000) then 0 else 2) else 1
def firstE {α : Type} (f : α → Int) : List α → Int
  | [] => 0
  | x :: l => if f x = 0 then firstE f l else f x
def planE (b : Bed) (plan : List (List Int)) : Int := if 200 < plan.length then 3 else firstE (ratesE b) plan
/-- A run from states and yields on. -/
def runFrom (b : Bed) (m : Mdl) : List (List Blk) → List (List Blk) → List Blk → List (List Int) → Option (List (List Blk) × List (List Blk))
  | ss, ys, _, [] => some (ss, ys)
  | ss, ys, s, r :: plan =>
    match tick b m s r with
    | some (s', y) => runFrom b m (ss ++ [s']) (ys ++ [y]) s' plan
    | none => none
def run (b : Bed) (m : Mdl) (plan : List (List Int)) : Option (List (List Blk) × List (List Blk)) := runFrom b m [firstSt b m] [] (firstSt b m) plan
end Go.Rock
