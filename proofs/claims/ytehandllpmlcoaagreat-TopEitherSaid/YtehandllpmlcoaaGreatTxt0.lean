/- What functions of the program answer, and what follows; part 0. -/
import Derived.Test.YtehandllpmlcoaaGreatBase3
import Derived.Test.YtehandllpmlcoaaGreatTab
/-
  Layers 2 and 5 in plain Lean: fields, models, beds; what is valid; pressures, flows, ticks, runs. No program in sight.
-/
set_option linter.unusedVariables false
set_option linter.unusedSimpArgs false
namespace Go.Rock
open Go Go.Abs

structure Fld where
  x : Int
  y : Int
  z : Int
  k : Int
structure Rw where
  t : Int
  p : Int
  l : Int
  v : Int
  s : Int
structure Bore where
  b : Int
  h : Int
  m : Int
structure Bed where
  f : Fld
  tab : List Rw
  stiff : Int
  lift : Int
  deep : Int
  wells : List Bore
structure Mdl where
  name : List UInt8
  vals : List Int
structure Blk where
  m : Int
  h : Int
  k : Int
@[simp] theorem Fld.eta (p : Fld) : Fld.mk p.x p.y p.z p.k = p := rfl
@[simp] theorem Rw.eta (p : Rw) : Rw.mk p.t p.p p.l p.v p.s = p := rfl
@[simp] theorem Bore.eta (p : Bore) : Bore.mk p.b p.h p.m = p := rfl
@[simp] theorem Blk.eta (p : Blk) : Blk.mk p.m p.h p.k = p := rfl
@[simp] def Fld.enc (f : Fld) : List D := [.int .i64 f.x, .int .i64 f.y, .int .i64 f.z, .int .i64 f.k]
@[simp] def Rw.enc (r : Rw) : List D := [.int .i64 r.t, .int .i64 r.p, .int .i64 r.l, .int .i64 r.v, .int .i64 r.s]
@[simp] def Bore.enc (r : Bore) : List D := [.int .i64 r.b, .int .i64 r.h, .int .i64 r.m]
@[simp] def Blk.enc (r : Blk) : List D := [.int .i64 r.m, .int .i64 r.h, .int .i64 r.k]
@[simp] def intE (n : Int) : List D := [.int .i64 n]
@[simp] def Bed.enc (b : Bed) : List D := [.int .i64 b.f.x, .int .i64 b.f.y, .int .i64 b.f.z, .int .i64 b.f.k, .lst b.tab.length (b.tab.flatMap Rw.enc), .int .i64 b.stiff, .int .i64 b.lift, .int .i64 b.deep, .lst b.wells.length (b.wells.flatMap Bore.enc)]
@[simp] def Mdl.enc (m : Mdl) : List D := [.str m.name, .lst m.vals.length (m.vals.flatMap intE)]
def stE (s : List Blk) : D := .lst s.length (s.flatMap Blk.enc)
def inE (s : List Int) : D := .lst s.length (s.flatMap intE)

def inn (n lo hi : Int) : Bool := decide (lo ≤ n) && decide (n ≤ hi)
theorem inn_iff {n lo hi : Int} : inn n lo hi = true ↔ lo ≤ n ∧ n ≤ hi := by simp [inn]

def Fld.size (f : Fld) : Int := f.x * f.y * f.z
def Fld.valid (f : Fld) : Bool := inn f.x 1 8 && (inn f.y 1 8 && (inn f.z 1 8 && (decide (f.size ≤ 64) && inn f.k 1 6)))
theorem Fld.valid_iff {f : Fld} : f.valid = true ↔ (1 ≤ f.x ∧ f.x ≤ 8) ∧ (1 ≤ f.y ∧ f.y ≤ 8) ∧ (1 ≤ f.z ∧ f.z ≤ 8) ∧ f.size ≤ 64 ∧ (1 ≤ f.k ∧ f.k ≤ 6) := by
  simp [Fld.valid, inn, and_assoc]
def Fld.shape (f : Fld) : Int := if f.valid then 0 else 1

/-- Letters, and digits behind the first place. -/
def letter (c : UInt8) : Bool := decide (97 ≤ c.toNat) && decide (c.toNat ≤ 122)
def digit (c : UInt8) : Bool := decide (48 ≤ c.toNat) && decide (c.toNat ≤ 57)
def namedFrom (i : Nat) : List UInt8 → Bool
  | [] => true
  | c :: l => (letter c || (decide (i ≠ 0) && digit c)) && namedFrom (i + 1) l
def named (s : List UInt8) : Bool := namedFrom 0 s && inn s.length 1 16
/-- The error of a model. -/
def Fld.model (f : Fld) (m : Mdl) : Int := if named m.name then (if (m.vals.length : Int) = f.k * f.size ∧ allB m.vals (fun n => inn n (-100000) 100000) = true then 0 else 1) else 5
/-- The first error of a list; a name that was there is an error, too. -/
def Fld.each (f : Fld) (met : List (List UInt8)) : List Mdl → Int
  | [] => 0
  | m :: l => if f.model m = 0 then (if met.contains m.name then 6 else f.each (met ++ [m.name]) l) else f.model m
def Fld.models (f : Fld) (l : List Mdl) : Int := if inn l.length 1 40 then f.each [] l else 3
def checkModels (f : Fld) (l : List Mdl) : Int := if f.valid then f.models l else 1

def Rw.alone (r : Rw) : Bool := inn r.t 0 400 && (inn r.p 1 10000 && (inn r.l 0 4000 && (inn r.s 0 2000 && (decide (r.l < r.v) && decide (r.v ≤ 4000)))))
def Rw.rises (o r : Rw) : Bool := !(decide (r.t ≤ o.t) || (decide (r.p ≤ o.p) || (decide (r.l ≤ o.l) || decide (r.s < o.s))))
def risesB : List Rw → Bool
  | o :: r :: l => o.rises r && risesB (r :: l)
  | _ => true
def tabOk (t : List Rw) : Bool := inn t.length 2 20 && (allB t Rw.alone && risesB t)

def Bore.ok (size : Int) (used : List Int) (w : Bore) : Bool := inn w.b 0 (size - 1) && (!used.contains w.b && (inn w.h 0 3000 && inn w.m 0 1000000))
def wellsOk (size : Int) (used : List Int) : List Bore → Bool
  | [] => true
  | w :: l => w.ok size used && wellsOk size (used ++ [w.b]) l
def Bed.size (b : Bed) : Int := b.f.size
def Bed.ok1 (b : Bed) : Bool := b.f.valid && (decide (4 ≤ b.f.k) && (tabOk b.tab && (inn b.stiff 1 100000 && (inn b.lift 0 1000 && (inn b.deep 0 3000 && decide (b.wells.length ≤ 8))))))
def Bed.valid (b : Bed) : Bool := b.ok1 && wellsOk b.size [] b.wells

def Bed.n (b : Bed) : Nat := b.size.toNat
def kindL (b : Bed) (m : Mdl) (k : Nat) : List Int := (m.vals.drop (k * b.n)).take b.n
def kindAt (b : Bed) (m : Mdl) (k : Nat) (i : Nat) : Int := (m.vals[k * b.n + i]?).getD 0
def hold (b : Bed) (m : Mdl) (i : Nat) : Int := kindAt b m 0 i
def opn (b : Bed) (m : Mdl) (i : Nat) : Int := kindAt b m 1 i
def warm (b : Bed) (m : Mdl) (i : Nat) : Int := kindAt b m 2 i
def feed (b : Bed) (m : Mdl) (i : Nat) : Int := kindAt b m 3 i
def fits (b : Bed) (m : Mdl) : Bool := decide (checkModels b.f [m] = 0) && (allB (kindL b m 0) (fun n => inn n 1000 100000) && (allB (kindL b m 1) (fun n => inn n 0 1000) && (allB (kindL b m 2) (fun n => inn n 0 3000) && allB (kindL b m 3) (fun n => inn n 0 1000))))
/-- A bed with a model that fits. -/
def Bd (b : Bed) (m : Mdl) : Bool := b.valid && fits b m

def firstSt (b : Bed) (m : Mdl) : List Blk := (List.range b.n).map fun i => ⟨hold b m i, hold b m i * warm b m i, 0⟩
def Blk.valid (x : Blk) : Bool := inn x.m 1 1000000 && (inn x.h 0 10000000000 && inn x.k 0 1000000000000)
def stateOk (b : Bed) (s : List Blk) : Bool := decide ((s.length : Int) = b.size) && allB s Blk.valid
def weight (b : Bed) (i : Nat) : Int := ((i / (b.f.x.toNat * b.f.y.toNat) : Nat) : Int) * b.lift
def down (n d : Int) : Int := n / d
def blkAt (s : List Blk) (i : Nat) : Blk := (s[i]?).getD ⟨0, 0, 0⟩
def pressStep (x : Blk) (out : Int) (r : Rw) : Int := if r.l * x.m ≤ x.h then max out r.p else out
def pressure (b : Bed) (m : Mdl) (s : List Blk) (i : Nat) : Int :=
  b.tab.foldl (pressStep (blkAt s i)) (max 0 (weight b i + down (b.stiff * ((blkAt s i).m - hold b m i)) (hold b m i)))
def pressures (b : Bed) (m : Mdl) (s : List Blk) : List Int := (List.range s.length).map (pressure b m s)

def linksAt (b : Bed) (i : Nat) : List (Nat × Nat) :=
  (if (i + 1) % b.f.x.toNat ≠ 0 then [(i, i + 1)] else []) ++ ((if i / b.f.x.toNat % b.f.y.toNat ≠ b.f.y.toNat - 1 then [(i, i + b.f.x.toNat)] else []) ++ (if i + b.f.x.toNat * b.f.y.toNat < b.n then [(i, i + b.f.x.toNat * b.f.y.toNat)] else []))
def links (b : Bed) : List (Nat × Nat) := (List.range b.n).flatMap (linksAt b)
def Blk.out (x : Blk) (m : Int) : Blk := ⟨m, (x.h * m).tdiv x.m, (x.k * m).tdiv x.m⟩
def Blk.move (x o : Blk) (sign : Int) : Blk := ⟨x.m + sign * o.m, x.h + sign * o.h, x.k + sign * o.k⟩
/-- What goes over a link: from where, to where, what; or nothing. -/
def flowAt (b : Bed) (m : Mdl) (s : List Blk) (p : List Int) (l : Nat × Nat) : Option ((Nat × Nat) × Blk) :=
  let d := (p[l.1]?).getD 0 - weight b l.1 - (p[l.2]?).getD 0 + weight b l.2
  let l' := if d < 0 then (l.2, l.1) else l
  let d' := if d < 0 then -d else d
  let q := min ((min (opn b m l'.1) (opn b m l'.2) * d').tdiv 1000) ((blkAt s l'.1).m.tdiv 8)
  if 0 < q then some (l', (blkAt s l'.1).out q) else none
def putL (es : List ((Nat × Nat) × Blk)) (k : Nat × Nat) (o : Blk) : List ((Nat × Nat) × Blk) :=
  match es.findIdx? (fun e => e.1 == k) with
  | some j => es.set j (k, o)
  | none => es ++ [(k, o)]
def flowStep (b : Bed) (m : Mdl) (s : List Blk) (p : List Int) (es : List ((Nat × Nat) × Blk)) (l : Nat × Nat) : List ((Nat × Nat) × Blk) :=
  match flowAt b m s p l with
  | some e => putL es e.1 e.2
  | none => es
def flows (b : Bed) (m : Mdl) (s : List Blk) : List ((Nat × Nat) × Blk) := (links b).foldl (flowStep b m s (pressures b m s)) []
def moveAt (s : List Blk) (i : Nat) (o : Blk) (sign : Int) : List Blk := s.set i ((blkAt s i).move o sign)
def flowMove (s : List Blk) (e : (Nat × Nat) × Blk) : List Blk := moveAt (moveAt s e.1.1 e.2 (-1)) e.1.2 e.2 1
def Bore.given (w : Bore) (rate : Int) : Blk := ⟨-rate, -rate * w.h, -rate * w.m⟩
def wellYield (s : List Blk) (w : Bore) (rate : Int) : Blk := if rate < 0 then ⟨0, 0, 0⟩ else (blkAt s w.b.toNat).out (min rate ((blkAt s w.b.toNat).m.tdiv 8))
def wellMove (s next : List Blk) (w : Bore) (rate : Int) : List Blk := if rate < 0 then moveAt next w.b.toNat (w.given rate) 1 else moveAt next w.b.toNat (wellYield s w rate) (-1)
def fed (b : Bed) (m : Mdl) (i : Nat) : Blk := ⟨feed b m i, feed b m i * b.deep, 0⟩
def nextSt (b : Bed) (m : Mdl) (s : List Blk) (rates : List Int) : List Blk :=
  let s1 := (flows b m s).foldl flowMove s
  let s2 := (b.wells.zip rates).foldl (fun n wr => wellMove s n wr.1 wr.2) s1
  (List.range s.length).foldl (fun n i => moveAt n i (fed b m i) 1) s2
def yieldsOf (b : Bed) (s : List Blk) (rates : List Int) : List Blk := (b.wells.zip rates).map fun wr => wellYield s wr.1 wr.2
/-- A tick: the next state and the yields; or a failure. -/
def tick (b : Bed) (m : Mdl) (s : List Blk) (rates : List Int) : Option (List Blk × List Blk) :=
  if stateOk b (nextSt b m s rates) then some (nextSt b m s rates, yieldsOf b s rates) else none
def ratesE (b : Bed) (l : List Int) : Int := if l.length = b.wells.length then (if allB l (fun n => inn n (-100000) 100000) then 0 else 2) else 1
def firstE {α : Type} (f : α → Int) : List α → Int
  | [] => 0
  | x :: l => if f x = 0 then firstE f l else f x
def planE (b : Bed) (plan : List (List Int)) : Int := if 200 < plan.length then 3 else firstE (ratesE b) plan
/-- A run from states and yields on. -/
def runFrom (b : Bed) (m : Mdl) : List (List Blk) → List (List Blk) → List Blk → List (List Int) → Option (List (List Blk) × List (List Blk))
  | ss, ys, _, [] => some (ss, ys)
  | ss, ys, s, r :: plan =>
    match tick b m s r with
    | some (s', y) => runFrom b m (ss ++ [s']) (ys ++ [y]) s' plan
    | none => none
def run (b : Bed) (m : Mdl) (plan : List (List Int)) : Option (List (List Blk) × List (List Blk)) := runFrom b m [firstSt b m] [] (firstSt b m) plan
end Go.Rock

/-
  What the functions on fields, tables and models answer.
-/
set_option linter.unusedVariables false
set_option linter.unusedSimpArgs false
namespace Go.Proofs.YtehandllpmlcoaaGreat
open Go Go.Abs Go.Rock
variable {σ : Stack}

theorem mul_b {a b A B : Int} (h1 : 1 ≤ a) (h2 : a ≤ A) (h3 : 1 ≤ b) (h4 : b ≤ B) : 1 ≤ a * b ∧ a * b ≤ A * B :=
  ⟨by have := Int.mul_pos (a := a) (b := b) (by omega) (by omega); omega, Int.mul_le_mul h2 h4 (by omega) (by omega)⟩
theorem mul_n {a b A B : Int} (h1 : 0 ≤ a) (h2 : a ≤ A) (h3 : 0 ≤ b) (h4 : b ≤ B) : 0 ≤ a * b ∧ a * b ≤ A * B :=
  ⟨Int.mul_nonneg h1 h3, Int.mul_le_mul h2 h4 h3 (by omega)⟩
theorem Fld.sz {f : Fld} (hx : 1 ≤ f.x ∧ f.x ≤ 8) (hy : 1 ≤ f.y ∧ f.y ≤ 8) (hz : 1 ≤ f.z ∧ f.z ≤ 8) : (1 ≤ f.x * f.y ∧ f.x * f.y ≤ 64) ∧ (1 ≤ f.x * f.y * f.z ∧ f.x * f.y * f.z ≤ 512) := by
  have h1 := mul_b hx.1 hx.2 hy.1 hy.2
  have h2 := mul_b h1.1 h1.2 hz.1 hz.2
  exact ⟨by omega, by omega⟩

theorem C_rwithin {a b c : Int} : lim T (.call false i_rock_within [.int .i64 a, .int .i64 b, .int .i64 c] σ) = some (.val (.bool (inn a b c)) σ) := by
  refine call_of T_rock_within e_rock_within rfl ?_
  by_cases h : b ≤ a <;> simp [-List.length_flatMap, -List.map_take, eF, h, inn]
theorem C_fwithin {a b c : Int} : lim T (.call false i_field_within [.int .i64 a, .int .i64 b, .int .i64 c] σ) = some (.val (.bool (inn a b c)) σ) := by
  refine call_of T_field_within e_field_within rfl ?_
  by_cases h : b ≤ a <;> simp [-List.length_flatMap, -List.map_take, eF, h, inn]
theorem C_swithin {a b c : Int} : lim T (.call false i_steam_within [.int .i64 a, .int .i64 b, .int .i64 c] σ) = some (.val (.bool (inn a b c)) σ) := by
  refine call_of T_steam_within e_steam_within rfl ?_
  by_cases h : b ≤ a <;> simp [-List.length_flatMap, -List.map_take, eF, h, inn]

theorem C_blocks {f : Fld} (hx : 1 ≤ f.x ∧ f.x ≤ 8) (hy : 1 ≤ f.y ∧ f.y ≤ 8) (hz : 1 ≤ f.z ∧ f.z ≤ 8) : lim T (.call false i_field_Field_blocks [.agg [.int .i64 f.x, .int .i64 f.y, .int .i64 f.z, .int .i64 f.k]] σ) = some (.val (.int .i64 f.size) σ) := by
  refine call_of T_field_Field_blocks e_field_Field_blocks rfl ?_
  obtain ⟨h1, h2⟩ := Fld.sz hx hy hz
  have w1 := w64 (n := f.x * f.y) (by omega)
  have w2 := w64 (n := f.x * f.y * f.z) (by omega)
  simp [-List.length_flatMap, -List.map_take, eF, w1, w2, Fld.size]
theorem C_fvalid {f : Fld} : lim T (.call false i_field_Field_valid [.agg [.int .i64 f.x, .int .i64 f.y, .int .i64 f.z, .int .i64 f.k]] σ) = some (.val (.bool f.valid) σ) := by
  refine call_of T_field_Field_valid e_field_Field_valid rfl ?_
  cases hc1 : inn f.x 1 8
  · simp [-List.length_flatMap, -List.map_take, eF, C_fwithin, Fld.valid, hc1]
  cases hc2 : inn f.y 1 8
  · simp [-List.length_flatMap, -List.map_take, eF, C_fwithin, Fld.valid, hc1, hc2]
  cases hc3 : inn f.z 1 8
  · simp [-List.length_flatMap, -List.map_take, eF, C_fwithin, Fld.valid, hc1, hc2, hc3]
  have hb := fun σ => C_blocks (σ := σ) (f := f) (inn_iff.1 hc1) (inn_iff.1 hc2) (inn_iff.1 hc3)
  by_cases hc4 : f.size ≤ 64
  · simp [-List.length_flatMap, -List.map_take, eF, C_fwithin, Fld.valid, hc1, hc2, hc3, hc4, hb]
  · simp [-List.length_flatMap, -List.map_take, eF, C_fwithin, Fld.valid, hc1, hc2, hc3, hc4, hb]
theorem C_shape {f : Fld} : lim T (.call false i_field_Field_shape [.agg [.int .i64 f.x, .int .i64 f.y, .int .i64 f.z, .int .i64 f.k]] σ) = some (.val (.int .i64 f.shape) σ) := by
  refine call_of T_field_Field_shape e_field_Field_shape rfl ?_
  have hb := fun σ => C_fvalid (σ := σ) (f := f)
  cases hc : f.valid <;> rw [hc] at hb <;> simp [-List.length_flatMap, -List.map_take, eF, hb, Fld.shape, hc]
theorem C_CheckField {f : Fld} : lim T (.call false i_field_CheckField [.agg [.int .i64 f.x, .int .i64 f.y, .int .i64 f.z, .int .i64 f.k]] σ) = some (.val (.int .i64 f.shape) σ) := by
  refine call_of T_field_CheckField e_field_CheckField rfl ?_
  have hb := fun σ => C_shape (σ := σ) (f := f)
  simp [-List.length_flatMap, -List.map_take, eF, hb]

/-! ### Names -/
theorem L_named {s : List UInt8} (hl : s.length ≤ 1000000000) : ∀ (m i : Nat), i + m = s.length →
    WL T [0, 6, 7] false f_field_named_l8 [(0, .str s), (6, .int .i64 s.length), (7, .int .i64 i)] σ
      (fun x e σ' => σ' = σ ∧ if namedFrom i (s.drop i) then x = .exit 0 ∧ get e 0 = .str s else x = .ret ∧ get e 2 = .bool false)
  | 0, i, hi => by
    refine WL_step e_field_named_l8 ?_
    have h1 : ¬ i < s.length := by omega
    have h2 : s.drop i = [] := List.drop_eq_nil_of_le (by omega)
    simp [-List.length_flatMap, -List.map_take, eF, h1, h2, namedFrom]
  | m + 1, i, hi => by
    refine WL_step e_field_named_l8 ?_
    have h1 : i < s.length := by omega
    obtain ⟨c, hc⟩ : ∃ c, s[i]? = some c := ⟨_, List.getElem?_eq_getElem h1⟩
    have h4 := wnext h1 (by omega)
    have h5 := drop_at hc
    have ih := L_named hl m (i + 1) (by omega)
    rw [h5, namedFrom]
    have hd : puD .sidx [.str s, .int .i64 (i : Int)] = some (.int .u8 c.toNat) := by simp [puD, hc]
    by_cases hc1 : 97 ≤ c.toNat
    · by_cases hc2 : c.toNat ≤ 122
      · have hlet : letter c = true := by simp [letter, hc1, hc2]
        simp [-List.length_flatMap, -List.map_take, eF, h1, h4, hd, hlet, show (97 : Int) ≤ (c.toNat : Int) by omega, show (c.toNat : Int) ≤ 122 by omega]
        exact WL.to ih (by simp) rfl fun x e σ' hh => by simpa [hlet] using hh
      · have hlet : letter c = false := by simp [letter, hc2]
        have hdig : digit c = false := by simp [digit]; omega
        by_cases hi0 : i = 0
        · subst hi0
          have hd0 : puD .sidx [.str s, .int .i64 0] = some (.int .u8 c.toNat) := by simpa using hd
          have h1' : 0 < s.length := h1
          simp [-List.length_flatMap, -List.map_take, eF, h1', h4, hd0, hlet, hdig, show (97 : Int) ≤ (c.toNat : Int) by omega, show ¬ (c.toNat : Int) ≤ 122 by omega]
        · simp [-List.length_flatMap, -List.map_take, eF, h1, h4, hd, hlet, hdig, hi0, show (97 : Int) ≤ (c.toNat : Int) by omega, show ¬ (c.toNat : Int) ≤ 122 by omega, show ¬ (c.toNat : Int) < 48 by omega, show (57 : Int) < (c.toNat : Int) by omega, show (57 : Nat) < c.toNat by omega, show ¬ c.toNat < 48 by omega]
    · have hlet : letter c = false := by simp [letter, hc1]
      by_cases hi0 : i = 0
      · subst hi0
        have hd0 : puD .sidx [.str s, .int .i64 0] = some (.int .u8 c.toNat) := by simpa using hd
        have h1' : 0 < s.length := h1
        simp [-List.length_flatMap, -List.map_take, eF, h1', h4, hd0, hlet, show ¬ (97 : Int) ≤ (c.toNat : Int) by omega]
      · by_cases hc3 : c.toNat < 48
        · have hdig : digit c = false := by simp [digit]; omega
          simp [-List.length_flatMap, -List.map_take, eF, h1, h4, hd, hlet, hdig, hi0, show ¬ (97 : Int) ≤ (c.toNat : Int) by omega, show (c.toNat : Int) < 48 by omega, hc3]
        · by_cases hc4 : 57 < c.toNat
          · have hdig : digit c = false := by simp [digit]; omega
            simp [-List.length_flatMap, -List.map_take, eF, h1, h4, hd, hlet, hdig, hi0, show ¬ (97 : Int) ≤ (c.toNat : Int) by omega, show ¬ (c.toNat : Int) < 48 by omega, show (57 : Int) < (c.toNat : Int) by omega, hc3, hc4]
          · have hdig : digit c = true := by simp [digit]; omega
            simp [-List.length_flatMap, -List.map_take, eF, h1, h4, hd, hlet, hdig, hi0, show ¬ (97 : Int) ≤ (c.toNat : Int) by omega, show ¬ (c.toNat : Int) < 48 by omega, show ¬ (57 : Int) < (c.toNat : Int) by omega, hc3, hc4]
            exact WL.to ih (by simp) rfl fun x e σ' hh => by simpa [hlet, hdig, hi0] using hh
theorem C_named {s : List UInt8} (hl : s.length ≤ 1000000000) : lim T (.call false i_field_named [.str s] σ) = some (.val (.bool (named s)) σ) := by
  refine call_of T_field_named e_field_named rfl ?_
  have hp : puD .slen [.str s] = some (.int .i64 s.length) := rfl
  simp [-List.length_flatMap, -List.map_take, eF, hp]
  refine WL.to (L_named (σ := [] :: σ) hl s.length 0 (by omega)) (by simp) rfl ?_
  rintro x e σ' ⟨rfl, h⟩
  simp only [List.drop_zero] at h
  unfold named
  cases hc : namedFrom 0 s
  · simp [hc] at h
    simp [h]
  · simp [hc] at h
    simp [-List.length_flatMap, -List.map_take, eF, h, hp, C_fwithin]

theorem C_inVal {a : Int} : lim T (.call false i_field_Field_model_1 [.int .i64 a] σ) = some (.val (.bool (inn a (-100000) 100000)) σ) := by
  refine call_of T_field_Field_model_1 e_field_Field_model_1 rfl ?_
  simp [-List.length_flatMap, -List.map_take, eF, C_fwithin]
theorem C_fallInt {l : List Int} {p : Int → Bool} {fv : D} (hl : l.length ≤ 1000000000) (ht : Tests T fv (fun n => .int .i64 n) p l) (hc : fv.cells = some [fv]) :
    lim T (.call false i_field_all_int [.lst l.length (l.flatMap intE), fv] σ) = some (.val (.bool (allB l p)) σ) :=
  all_of (eltInt .i64) (f := i_field_all_int) (g := i_field_all_int_1) (h := i_slices_ContainsFunc_int) (i := i_slices_IndexFunc_int) (l := l) (p := p) (fv := fv) rfl rfl rfl rfl (by omega) ht hc
theorem model_sz {f : Fld} (hf : f.valid = true) : (1 ≤ f.size ∧ f.size ≤ 64) ∧ 1 ≤ f.k * f.size ∧ f.k * f.size ≤ 384 := by
  obtain ⟨h1, h2, h3, h4, h5⟩ := Fld.valid_iff.1 hf
  obtain ⟨_, h6⟩ := Fld.sz h1 h2 h3
  have h7 := mul_b h5.1 h5.2 (b := f.size) (B := 64) (by unfold Fld.size; omega) h4
  exact ⟨⟨by unfold Fld.size; omega, h4⟩, by omega, by omega⟩
theorem C_model {f : Fld} {m : Mdl} (hf : f.valid = true) (hn : m.name.length ≤ 1000000000) (hl : m.vals.length ≤ 1000000000) : lim T (.call false i_field_Field_model [.agg [.int .i64 f.x, .int .i64 f.y, .int .i64 f.z, .int .i64 f.k], .agg [.str m.name, .lst m.vals.length (m.vals.flatMap intE)]] σ) = some (.val (.int .i64 (f.model m)) σ) := by
  refine call_of T_field_Field_model e_field_Field_model rfl ?_
  obtain ⟨h1, h2, h3, h4, h5⟩ := Fld.valid_iff.1 hf
  obtain ⟨h6, h7⟩ := model_sz hf
  have w1 := w64 (n := f.k * f.size) (by omega)
  have hb := fun σ => C_blocks (σ := σ) (f := f) h1 h2 h3
  have ha := fun σ => C_fallInt (σ := σ) (l := m.vals) (p := fun n => inn n (-100000) 100000) (fv := .fn i_field_Field_model_1 [] []) hl (Tests.fn fun x _ σ => by simpa using C_inVal) rfl
  cases hc1 : named m.name
  · simp [-List.length_flatMap, -List.map_take, eF, C_named hn, hc1, Fld.model]
  · by_cases hc2 : (m.vals.length : Int) = f.k * f.size
    · cases hc3 : allB m.vals (fun n => inn n (-100000) 100000) <;>
        simp [-List.length_flatMap, -List.map_take, eF, C_named hn, hc1, hc2, hc3, Fld.model, hb, ha, w1]
    · simp [-List.length_flatMap, -List.map_take, eF, C_named hn, hc1, hc2, Fld.model, hb, w1]
end Go.Proofs.YtehandllpmlcoaaGreat

/-
  What the functions on lists of models, on tables and beds answer.
-/
set_option linter.unusedVariables false
set_option linter.unusedSimpArgs false
namespace Go.Proofs.YtehandllpmlcoaaGreat
open Go Go.Abs Go.Rock
variable {σ : Stack}

/-- Names that were met, as a map's entries. -/
def metE (met : List (List UInt8)) : List D := met.map fun n => .tup [.str n, .bool true]
theorem findK_met {k : List UInt8} : ∀ {met : List (List UInt8)}, ∃ r, findK none (.str k) (metE met) = some r ∧ (met.contains k = true → ∃ j, r = some (j, .bool true)) ∧ (met.contains k = false → r = none)
  | [] => ⟨none, rfl, by simp, by simp⟩
  | n :: met => by
    obtain ⟨r, h1, h2, h3⟩ := findK_met (k := k) (met := met)
    simp only [metE, List.map_cons] at h1 ⊢
    by_cases hk : k = n
    · subst hk
      exact ⟨some (0, .bool true), by simp [findK, keyQ], fun _ => ⟨0, rfl⟩, by simp⟩
    · have hb : (k == n) = false := by simpa using hk
      refine ⟨r.map fun y => (y.1 + 1, y.2), by simp [findK, keyQ, hb, h1], ?_, ?_⟩
      · intro hc
        have : met.contains k = true := by simpa [hk] using hc
        obtain ⟨j, rfl⟩ := h2 this
        exact ⟨j + 1, rfl⟩
      · intro hc
        have : met.contains k = false := by simp at hc ⊢; exact hc.2
        rw [h3 this]; rfl
theorem mpGet {S : Stack} {l i : Nat} {met : List (List UInt8)} {k : List UInt8} (h : cells? S l i 0 = some (metE met)) : mpD S (.get none (.bool false) false) [.yld l i, .str k] = some (.bool (met.contains k), S) := by
  obtain ⟨r, h1, h2, h3⟩ := findK_met (k := k) (met := met)
  simp only [mpD, mapD, h, Option.map_some, h1]
  cases hc : met.contains k
  · rw [h3 hc]; simp [keyQ]
  · obtain ⟨j, rfl⟩ := h2 hc; simp [keyQ]
theorem mpPut {S : Stack} {l i : Nat} {met : List (List UInt8)} {k : List UInt8} (h : cells? S l i 0 = some (metE met)) (hn : met.contains k = false) :
    mpD S (.put none) [.yld l i, .str k, .bool true] = some (.undef, setBlk S l i (.cells 0 (metE (met ++ [k])))) := by
  obtain ⟨r, h1, h2, h3⟩ := findK_met (k := k) (met := met)
  simp only [mpD, mapD, h, Option.map_some, h1]
  rw [h3 hn]
  simp [keyQ, metE, D.clean]

theorem C_of {f : Fld} {m : Mdl} (hf : f.valid = true) (hn : m.name.length ≤ 1000000000) (hl : m.vals.length ≤ 1000000000) :
    lim T (.call false i_field_Field_models_1 [.agg [.str m.name, .lst m.vals.length (m.vals.flatMap intE)], .cref [.int .i64 f.x, .int .i64 f.y, .int .i64 f.z, .int .i64 f.k]] σ) = some (.val (.tup [.str m.name, .int .i64 (f.model m)]) σ) := by
  refine call_of T_field_Field_models_1 e_field_Field_models_1 rfl ?_
  simp [-List.length_flatMap, -List.map_take, eF, C_model hf hn hl]

theorem L_each {f : Fld} {l : List Mdl} (hf : f.valid = true) (hs : ∀ m ∈ l, m.name.length ≤ 1000000000 ∧ m.vals.length ≤ 1000000000) (hl : l.length ≤ 1000000000) : ∀ (k i : Nat) (met : List (List UInt8)), i + k = l.length →
    WL T [1, 5, 11, 12, 13] false f_field_each_field_Model_l12 [(1, .fn i_field_Field_models_1 [] [.cref [.int .i64 f.x, .int .i64 f.y, .int .i64 f.z, .int .i64 f.k]]), (5, .yld σ.length 0), (11, .lst l.length (l.flatMap Mdl.enc)), (12, .int .i64 l.length), (13, .int .i64 i)] ([.cells 0 (metE met)] :: σ)
      (fun x e σ' => ∃ s, σ' = s :: σ ∧ if f.each met (l.drop i) = 0 then x = .exit 0 else x = .ret ∧ get e 4 = .int .i64 (f.each met (l.drop i)))
  | 0, i, met, hi => by
    refine WL_step e_field_each_field_Model_l12 ?_
    have h1 : ¬ i < l.length := by omega
    have h2 : l.drop i = [] := List.drop_eq_nil_of_le (by omega)
    simp [-List.length_flatMap, -List.map_take, eF, h1, h2, Fld.each]
  | k + 1, i, met, hi => by
    refine WL_step e_field_each_field_Model_l12 ?_
    have h1 : i < l.length := by omega
    obtain ⟨m, hm⟩ : ∃ m, l[i]? = some m := ⟨_, List.getElem?_eq_getElem h1⟩
    have h2 := flat_at (f := Mdl.enc) (w := 2) (fun _ => rfl) hm
    have h4 := wnext h1 (by omega)
    have h5 := drop_at hm
    obtain ⟨hs1, hs2⟩ := hs m (List.mem_of_getElem? hm)
    have hC := fun σ => C_of (σ := σ) hf hs1 hs2
    rw [h5, Fld.each]
    by_cases hc1 : f.model m = 0
    · have hg := mpGet (S := [.cells 0 (metE met)] :: σ) (l := σ.length) (i := 0) (met := met) (k := m.name) (by simp)
      cases hc2 : met.contains m.name
      · rw [hc2] at hg
        have hp := mpPut (S := [.cells 0 (metE met)] :: σ) (l := σ.length) (i := 0) (met := met) (k := m.name) (by simp) hc2
        have ih := L_each hf hs hl k (i + 1) (met ++ [m.name]) (by omega)
        simp at hp
        have hc3 : ¬ m.name ∈ met := by simpa using hc2
        simp [-List.length_flatMap, -List.map_take, eF, h1, h2, h4, hC, hc1, hg, hp, hc3]
        exact WL.to ih (by simp) (by simp) fun x e σ' hh => by simpa [hc1] using hh
      · rw [hc2] at hg
        have hc3 : m.name ∈ met := by simpa using hc2
        simp [-List.length_flatMap, -List.map_take, eF, h1, h2, h4, hC, hc1, hg, hc3]
    · simp [-List.length_flatMap, -List.map_take, eF, h1, h2, h4, hC, hc1]
theorem C_each {f : Fld} {l : List Mdl} (hf : f.valid = true) (hs : ∀ m ∈ l, m.name.length ≤ 1000000000 ∧ m.vals.length ≤ 1000000000) (hl : l.length ≤ 1000000000) :
    lim T (.call false i_field_each_field_Model [.lst l.length (l.flatMap Mdl.enc), .fn i_field_Field_models_1 [] [.cref [.int .i64 f.x, .int .i64 f.y, .int .i64 f.z, .int .i64 f.k]]] σ) = some (.val (.int .i64 (f.each [] l)) σ) := by
  refine call_of T_field_each_field_Model e_field_each_field_Model rfl ?_
  have hm : mpD ([] :: σ) .make [] = some (.yld σ.length 0, [.cells 0 (metE [])] :: σ) := by simp [mpD, metE]
  simp [-List.length_flatMap, -List.map_take, eF, hm]
  refine WL.to (L_each (σ := σ) hf hs hl l.length 0 [] (by omega)) (by simp) (by simp) ?_
  rintro x e σ' ⟨s, rfl, h⟩
  simp only [List.drop_zero] at h
  by_cases hc : f.each [] l = 0
  · rw [if_pos hc] at h
    subst h
    simp [-List.length_flatMap, -List.map_take, eF, hc]
  · rw [if_neg hc] at h
    obtain ⟨rfl, h⟩ := h
    simp [h]
theorem C_models {f : Fld} {l : List Mdl} (hf : f.valid = true) (hs : ∀ m ∈ l, m.name.length ≤ 1000000000 ∧ m.vals.length ≤ 1000000000) (hl : l.length ≤ 1000000000) :
    lim T (.call false i_field_Field_models [.agg [.int .i64 f.x, .int .i64 f.y, .int .i64 f.z, .int .i64 f.k], .lst l.length (l.flatMap Mdl.enc)] σ) = some (.val (.int .i64 (f.models l)) σ) := by
  refine call_of T_field_Field_models e_field_Field_models rfl ?_
  cases hc : inn l.length 1 40
  · simp [-List.length_flatMap, -List.map_take, eF, C_fwithin, hc, Fld.models]
  · simp [-List.length_flatMap, -List.map_take, eF, C_fwithin, hc, Fld.models, C_each hf hs hl]
theorem C_CheckModels1 {f : Fld} {l : List Mdl} (hf : f.valid = true) (hs : ∀ m ∈ l, m.name.length ≤ 1000000000 ∧ m.vals.length ≤ 1000000000) (hl : l.length ≤ 1000000000) :
    lim T (.call false i_field_CheckModels_1 [.cref [.int .i64 f.x, .int .i64 f.y, .int .i64 f.z, .int .i64 f.k], .cref [.lst l.length (l.flatMap Mdl.enc)]] σ) = some (.val (.int .i64 (f.models l)) σ) := by
  refine call_of T_field_CheckModels_1 e_field_CheckModels_1 rfl ?_
  simp [-List.length_flatMap, -List.map_take, eF, C_models hf hs hl]

/-- The first error of some functions: of two. -/
theorem C_first {fs : List D} {es : List Int} (hlen : fs.length = es.length) (hl : fs.length ≤ 100) (hfs : ∀ d ∈ fs, d.strip = d ∧ d.calm = d ∧ ldD false 1 (some [d]) = some d)
    (hcall : ∀ (i : Nat) d n, fs[i]? = some d → es[i]? = some n → (∀ j, j < i → es[j]? = some 0) → ∀ σ, callv (lim T) false d [] σ = some (.int .i64 n, σ)) :
    lim T (.call false i_field_first [.lst fs.length fs] σ) = some (.val (.int .i64 (firstE id es)) σ) := by
  have loop : ∀ (k i : Nat) (σ : Stack), i + k = fs.length → (∀ j, j < i → es[j]? = some 0) →
      WL T [6, 7, 8] false f_field_first_l8 [(6, .lst fs.length fs), (7, .int .i64 fs.length), (8, .int .i64 i)] σ
        (fun x e σ' => σ' = σ ∧ if firstE id (es.drop i) = 0 then x = .exit 0 else x = .ret ∧ get e 2 = .int .i64 (firstE id (es.drop i))) := by
    intro k
    induction k with
    | zero =>
      intro i σ hi h0
      refine WL_step e_field_first_l8 ?_
      have h1 : ¬ i < fs.length := by omega
      have h2 : es.drop i = [] := List.drop_eq_nil_of_le (by omega)
      simp [-List.length_flatMap, -List.map_take, eF, h1, h2, firstE]
    | succ k ih =>
      intro i σ hi h0
      refine WL_step e_field_first_l8 ?_
      have h1 : i < fs.length := by omega
      obtain ⟨d, hd⟩ : ∃ d, fs[i]? = some d := ⟨_, List.getElem?_eq_getElem h1⟩
      obtain ⟨n, hn⟩ : ∃ n, es[i]? = some n := ⟨_, List.getElem?_eq_getElem (by omega)⟩
      obtain ⟨g1, g2, g3⟩ := hfs d (List.mem_of_getElem? hd)
      have h2 := flat_at (f := fun d : D => [d]) (w := 1) (fun _ => rfl) (l := fs) hd
      rw [show (fs.flatMap fun d => [d]) = fs from by simp] at h2
      have h4 := wnext h1 (by omega)
      have h5 := drop_at hn
      have hc := hcall i d n hd hn h0
      simp only [Nat.mul_one] at h2
      rw [h5, firstE]
      by_cases hz : n = 0
      · subst hz
        have ih' := ih (i + 1) σ (by omega) (fun j hj => by
          by_cases hji : j = i
          · subst hji; exact hn
          · exact h0 j (by omega))
        simp [-List.length_flatMap, -List.map_take, eF, h1, h2, h4, g1, g2, hc]
        exact WL.to ih' (by simp) rfl fun x e σ' hh => by simpa using hh
      · simp [-List.length_flatMap, -List.map_take, eF, h1, h2, h4, g1, g2, hc, hz]
  refine call_of T_field_first e_field_first rfl ?_
  simp [-List.length_flatMap, -List.map_take, eF]
  refine WL.to (loop fs.length 0 ([] :: σ) (by omega) (by simp)) (by simp) rfl ?_
  rintro x e σ' ⟨rfl, h⟩
  simp only [List.drop_zero] at h
  by_cases hc : firstE id es = 0
  · rw [if_pos hc] at h
    subst h
    simp [-List.length_flatMap, -List.map_take, eF, hc]
  · rw [if_neg hc] at h
    obtain ⟨rfl, h⟩ := h
    simp [h]
theorem C_CheckModels {f : Fld} {l : List Mdl} (hs : ∀ m ∈ l, m.name.length ≤ 1000000000 ∧ m.vals.length ≤ 1000000000) (hl : l.length ≤ 1000000000) :
    lim T (.call false i_field_CheckModels [.agg [.int .i64 f.x, .int .i64 f.y, .int .i64 f.z, .int .i64 f.k], .lst l.length (l.flatMap Mdl.enc)] σ) = some (.val (.int .i64 (checkModels f l)) σ) := by
  refine call_of T_field_CheckModels e_field_CheckModels rfl ?_
  have hC := fun σ => C_first (σ := σ) (fs := [.fn i_field_Field_shape [.agg [.int .i64 f.x, .int .i64 f.y, .int .i64 f.z, .int .i64 f.k]] [], .fn i_field_CheckModels_1 [] [.cref [.int .i64 f.x, .int .i64 f.y, .int .i64 f.z, .int .i64 f.k], .cref [.lst l.length (l.flatMap Mdl.enc)]]]) (es := [f.shape, f.models l]) rfl (by simp) (by simp) (by
    intro i d n hd hn h0 σ
    match i with
    | 0 =>
      simp at hd hn
      subst hd hn
      simp [C_shape]
    | 1 =>
      simp at hd hn
      subst hd hn
      have h1 : f.valid = true := by
        have := h0 0 (by omega)
        simp [Fld.shape] at this
        exact this
      simp [C_CheckModels1 h1 hs hl]
    | i + 2 => simp at hd)
  simp at hC
  have e1 : firstE id [f.shape, f.models l] = checkModels f l := by
    simp only [firstE, id, checkModels, Fld.shape]
    by_cases h : f.valid = true
    · by_cases h2 : f.models l = 0 <;> simp [h, h2]
    · simp [h]
  rw [e1] at hC
  simp [-List.length_flatMap, -List.map_take, eF, hC]
end Go.Proofs.YtehandllpmlcoaaGreat

/-
  'All' of a list by a function that changes the store as it goes.
-/
set_option linter.unusedVariables false
set_option linter.unusedSimpArgs false
namespace Go.Abs
open Go
variable {T : Tbl}

/-- A search from i on through m elements: was one found, and how far did it come? -/
def scanQ (q : Nat → Bool) (i : Nat) : Nat → Bool × Nat
  | 0 => (false, i)
  | m + 1 => if q i then (true, i + 1) else scanQ q (i + 1) m
theorem scanQ_all {q : Nat → Bool} : ∀ {m i : Nat}, (scanQ q i m).1 = false ↔ ∀ j, j < m → q (i + j) = false
  | 0, i => by simp [scanQ]
  | m + 1, i => by
    simp only [scanQ]
    by_cases h : q i = true
    · simp only [h, if_true, Bool.true_eq_false, false_iff]
      intro hh
      have := hh 0 (by omega)
      simp [h] at this
    · have h' : q i = false := by simpa using h
      simp only [h', Bool.false_eq_true, if_false]
      rw [scanQ_all (m := m) (i := i + 1)]
      constructor
      · intro hh j hj
        cases j with
        | zero => simpa using h'
        | succ j => have := hh j (by omega); rwa [show i + 1 + j = i + (j + 1) from by omega] at this
      · intro hh j hj
        have := hh (j + 1) (by omega)
        rwa [show i + (j + 1) = i + 1 + j from by omega] at this

section
variable {α : Type} (E : Elt α) {fv : D} {l : List α} {q : Nat → Bool} {S : Nat → Stack}

theorem idx_loopS (hl : l.length ≤ 9223372036854775807) (h1 : fv.strip = fv) (h2 : fv.calm = fv) (ht : ∀ i x, l[i]? = some x → callv (lim T) false fv [E.val x] (S i) = some (.bool (q i), S (i + 1))) : ∀ (m i : Nat), i + m = l.length →
    WL T [0, 1, 7, 8] false (idxL E.ag E.w) [(0, .lst l.length (l.flatMap E.enc)), (1, fv), (7, .int .i64 l.length), (8, .int .i64 i)] (S i)
      (fun x e σ' => σ' = S (scanQ q i m).2 ∧ if (scanQ q i m).1 = true then x = .ret ∧ ∃ j : Nat, get e 4 = .int .i64 j else x = .exit 0)
  | 0, i, hi => by
    refine WL_step (idxL.eq_1 _ _) ?_
    have : ¬ i < l.length := by omega
    simp [this, h1, h2, scanQ]
  | m + 1, i, hi => by
    refine WL_step (idxL.eq_1 _ _) ?_
    have h4 : i < l.length := by omega
    obtain ⟨x, hx⟩ : ∃ x, l[i]? = some x := ⟨_, List.getElem?_eq_getElem h4⟩
    have h5 := flat_at (f := E.enc) E.len hx
    have h6 := ht i x hx
    have h7 := wnext h4 hl
    have ih := idx_loopS hl h1 h2 ht m (i + 1) (by omega)
    cases hq : q i
    · rw [hq] at h6
      simp [h4, h1, h2, h5, h6, h7, E.load, E.strip, E.calm]
      refine WL.mono (by simpa using ih) ?_
      rintro x e σ' ⟨h9, h10⟩
      simp only [scanQ, hq, Bool.false_eq_true, if_false]
      exact ⟨h9, h10⟩
    · rw [hq] at h6
      simp [h4, h1, h2, h5, h6, h7, E.load, E.strip, E.calm, scanQ, hq]
      exact ⟨i, rfl⟩

theorem index_ofS {f : Nat} (hT : T f = some (idxFn E.ag E.w)) (hl : l.length ≤ 9223372036854775807) (h1 : fv.strip = fv) (h2 : fv.calm = fv) (hlen : ∀ i, (S i).length = (S 0).length)
    (ht : ∀ i x, l[i]? = some x → callv (lim T) false fv [E.val x] ([] :: S i) = some (.bool (q i), [] :: S (i + 1))) :
    ∃ n : Int, lim T (.call false f [.lst l.length (l.flatMap E.enc), fv] (S 0)) = some (.val (.int .i64 n) (S (scanQ q 0 l.length).2)) ∧ (0 ≤ n ↔ (scanQ q 0 l.length).1 = true) := by
  have h := idx_loopS E (S := fun i => [] :: S i) hl h1 h2 ht l.length 0 (by omega)
  cases hq : (scanQ q 0 l.length).1
  · refine ⟨-1, ?_, by simp⟩
    refine call_to hT (idxFn.eq_1 _ _) rfl (hlen _) ?_
    simp [h1, h2]
    refine WL.mono (by simpa using h) ?_
    rintro x e σ' ⟨rfl, h10⟩
    rw [hq] at h10
    simp only [Bool.false_eq_true, if_false] at h10
    subst h10
    simp
  · obtain ⟨x, e, σ', hw, rfl, h10⟩ := h
    rw [hq] at h10
    simp only [if_true] at h10
    obtain ⟨rfl, j, hj⟩ := h10
    refine ⟨j, ?_, by simp⟩
    refine call_to hT (idxFn.eq_1 _ _) rfl (hlen _) ?_
    simp [h1, h2]
    refine ⟨_, _, _, by simpa using hw, ?_⟩
    simp [hj]

theorem contains_ofS {f i : Nat} (hT : T f = some (containsFn i)) (hi : T i = some (idxFn E.ag E.w)) (hl : l.length ≤ 9223372036854775807) (h1 : fv.strip = fv) (h2 : fv.calm = fv) (hlen : ∀ i, (S i).length = (S 0).length)
    (ht : ∀ i x, l[i]? = some x → callv (lim T) false fv [E.val x] ([] :: [] :: S i) = some (.bool (q i), [] :: [] :: S (i + 1))) :
    lim T (.call false f [.lst l.length (l.flatMap E.enc), fv] (S 0)) = some (.val (.bool (scanQ q 0 l.length).1) (S (scanQ q 0 l.length).2)) := by
  obtain ⟨n, h, hn⟩ := index_ofS E (S := fun i => [] :: S i) hi hl h1 h2 (fun i => by simp [hlen i]) ht
  refine call_to hT (containsFn.eq_1 _) rfl (hlen _) ?_
  have h4 : decide (0 ≤ n) = (scanQ q 0 l.length).1 := by
    cases hq : (scanQ q 0 l.length).1
    · rw [hq] at hn; simp at hn; exact decide_eq_false (by omega)
    · exact decide_eq_true (hn.2 hq)
  simp [h1, h2, h, h4]

theorem all1_ofS {g : Nat} {x : α} {b : Bool} {σ σ' : Stack} (hT : T g = some (all1Fn E.ag E.w)) (hlen : σ'.length = σ.length) (h1 : fv.strip = fv) (h2 : fv.calm = fv) (ht : callv (lim T) false fv [E.val x] ([] :: σ) = some (.bool b, [] :: σ')) :
    callv (lim T) false (.fn g [] [.cref [fv]]) [E.val x] σ = some (.bool (!b), σ') := by
  rw [callv_fn]
  have hc := E.cells x
  have hl := E.load x
  have hs := E.strip x
  have hcm := E.calm x
  have key : lim T (.call false g ([] ++ [E.val x] ++ [.cref [fv]]) σ) = some (.val (.bool (!b)) σ') := by
    generalize E.ag = ag at *
    cases ag with
    | true =>
      refine call_to hT (all1Fn.eq_1 _) rfl hlen ?_
      simp [h1, h2, ht, hc, hl, hs, hcm]
    | false =>
      refine call_to hT (all1Fn.eq_2 _) rfl hlen ?_
      simp [h1, h2, ht, hc, hl, hs, hcm]
  rw [key]; rfl

/-- The answer of 'all': is p so everywhere, element by element, the store going on? -/
theorem all_ofS {f g h i : Nat} {p : Nat → Bool} (hf : T f = some (allFn g h)) (hg : T g = some (all1Fn E.ag E.w)) (hh : T h = some (containsFn i)) (hi : T i = some (idxFn E.ag E.w))
    (hl : l.length ≤ 9223372036854775807) (h1 : fv.strip = fv) (h2 : fv.calm = fv) (hcl : fv.cells = some [fv]) (hlen : ∀ i, (S i).length = (S 0).length)
    (ht : ∀ i x, l[i]? = some x → callv (lim T) false fv [E.val x] ([] :: [] :: [] :: [] :: S i) = some (.bool (p i), [] :: [] :: [] :: [] :: S (i + 1))) :
    lim T (.call false f [.lst l.length (l.flatMap E.enc), fv] (S 0)) = some (.val (.bool !(scanQ (fun i => !p i) 0 l.length).1) (S (scanQ (fun i => !p i) 0 l.length).2)) := by
  have hc := contains_ofS E (S := fun i => [] :: S i) (fv := .fn g [] [.cref [fv]]) (q := fun i => !p i) hh hi hl rfl rfl (fun i => by simp [hlen i]) (fun i x hx => all1_ofS E hg (by simp [hlen i, hlen (i + 1)]) h1 h2 (ht i x hx))
  refine call_to hf (allFn.eq_1 _ _) rfl (hlen _) ?_
  simp [h1, h2, hc, hcl]

/-- .. by a function that reads the store, and leaves it as it is. -/
theorem all_ofC {f g h i : Nat} {p : α → Bool} {σ : Stack} (hf : T f = some (allFn g h)) (hg : T g = some (all1Fn E.ag E.w)) (hh : T h = some (containsFn i)) (hi : T i = some (idxFn E.ag E.w))
    (hl : l.length ≤ 9223372036854775807) (h1 : fv.strip = fv) (h2 : fv.calm = fv) (hcl : fv.cells = some [fv])
    (ht : ∀ x ∈ l, callv (lim T) false fv [E.val x] ([] :: [] :: [] :: [] :: σ) = some (.bool (p x), [] :: [] :: [] :: [] :: σ)) :
    lim T (.call false f [.lst l.length (l.flatMap E.enc), fv] σ) = some (.val (.bool (allB l p)) σ) := by
  have h0 := all_ofS E (T := T) (S := fun _ => σ) (fv := fv) (l := l) (p := fun i => match l[i]? with | some x => p x | none => true) hf hg hh hi hl h1 h2 hcl (fun _ => rfl) (fun i x hx => by
    rw [ht x (List.mem_of_getElem? hx)]
    simp [hx])
  have he : (!(scanQ (fun i => !(match l[i]? with | some x => p x | none => true)) 0 l.length).1) = allB l p := by
    have h2 := scanQ_all (q := fun i => !(match l[i]? with | some x => p x | none => true)) (m := l.length) (i := 0)
    cases hw : allB l p
    · rw [Bool.not_eq_false']
      cases hs : (scanQ (fun i => !(match l[i]? with | some x => p x | none => true)) 0 l.length).1
      · have h3 := h2.1 hs
        have h4 : allB l p = true := allB_iff.2 fun x hx => by
          obtain ⟨j, hj⟩ := List.getElem?_of_mem hx
          have := h3 j (List.getElem?_eq_some_iff.1 hj).1
          simpa [hj] using this
        rw [hw] at h4; cases h4
      · rfl
    · rw [Bool.not_eq_true']
      refine h2.2 fun j hj => ?_
      have hx := List.getElem?_eq_getElem hj
      have := allB_iff.1 hw _ (List.getElem_mem hj)
      simp [hx, this]
  rw [he] at h0
  exact h0
end
end Go.Abs

/-
  What the functions on tables and beds answer.
-/
set_option linter.unusedVariables false
set_option linter.unusedSimpArgs false
namespace Go.Proofs.YtehandllpmlcoaaGreat
open Go Go.Abs Go.Rock
variable {σ : Stack}

theorem C_alone {r : Rw} : lim T (.call false i_steam_Row_alone [.agg r.enc] σ) = some (.val (.bool r.alone) σ) := by
  refine call_of T_steam_Row_alone e_steam_Row_alone rfl ?_
  cases hc1 : inn r.t 0 400
  · simp [-List.length_flatMap, -List.map_take, eF, C_swithin, Rw.alone, hc1]
  cases hc2 : inn r.p 1 10000
  · simp [-List.length_flatMap, -List.map_take, eF, C_swithin, Rw.alone, hc1, hc2]
  cases hc3 : inn r.l 0 4000
  · simp [-List.length_flatMap, -List.map_take, eF, C_swithin, Rw.alone, hc1, hc2, hc3]
  cases hc4 : inn r.s 0 2000
  · simp [-List.length_flatMap, -List.map_take, eF, C_swithin, Rw.alone, hc1, hc2, hc3, hc4]
  by_cases hc5 : r.l < r.v
  rotate_left
  · simp [-List.length_flatMap, -List.map_take, eF, C_swithin, Rw.alone, hc1, hc2, hc3, hc4, hc5]
  simp [-List.length_flatMap, -List.map_take, eF, C_swithin, Rw.alone, hc1, hc2, hc3, hc4, hc5]
theorem C_sall {l : List Rw} (hl : l.length ≤ 1000000000) : lim T (.call false i_steam_all_steam_Row [.lst l.length (l.flatMap Rw.enc), .fn i_steam_Row_alone [] []] σ) = some (.val (.bool (allB l Rw.alone)) σ) :=
  all_of (eltAgg 5 Rw.enc (fun _ => rfl)) (f := i_steam_all_steam_Row) (g := i_steam_all_steam_Row_1) (h := i_slices_ContainsFunc_steam_Row) (i := i_slices_IndexFunc_steam_Row) (l := l) (p := Rw.alone) rfl rfl rfl rfl (by omega) (Tests.fn fun x _ σ => C_alone) rfl
theorem L_tab {t l : List Rw} {o : Rw} (hto : t = o :: l) (hl : l.length ≤ 100) : ∀ (m i : Nat), i + m = l.length →
    WL T [0, 16, 17, 18] false f_steam_Table_valid_l10 [(0, .lst t.length (t.flatMap Rw.enc)), (16, .lst l.length (l.flatMap Rw.enc)), (17, .int .i64 l.length), (18, .int .i64 i)] σ
      (fun x e σ' => σ' = σ ∧ if risesB (t.drop i) then x = .exit 0 else x = .ret ∧ get e 2 = .bool false)
  | 0, i, hi => by
    refine WL_step e_steam_Table_valid_l10 ?_
    have h1 : ¬ i < l.length := by omega
    have h2 : t.drop i = [t[i]'(by subst hto; simp; omega)] := by
      rw [List.drop_eq_getElem_cons (by subst hto; simp; omega), List.drop_eq_nil_of_le (by subst hto; simp; omega)]
    simp [-List.length_flatMap, -List.map_take, eF, h1, h2, risesB]
  | m + 1, i, hi => by
    refine WL_step e_steam_Table_valid_l10 ?_
    have h1 : i < l.length := by omega
    have htl : t.length = l.length + 1 := by subst hto; rfl
    obtain ⟨r, hr⟩ : ∃ r, l[i]? = some r := ⟨_, List.getElem?_eq_getElem h1⟩
    obtain ⟨r0, hr0⟩ : ∃ r0, t[i]? = some r0 := ⟨_, List.getElem?_eq_getElem (by omega)⟩
    have h2 := flat_at (f := Rw.enc) (w := 5) (fun _ => rfl) hr
    have h3 := flat_at (f := Rw.enc) (w := 5) (fun _ => rfl) hr0
    have h4 := wnext h1 (by omega)
    have h6 : t.drop (i + 1) = r :: t.drop (i + 2) := drop_at (by subst hto; simpa using hr)
    have h5 : t.drop i = r0 :: r :: t.drop (i + 2) := by rw [drop_at hr0, h6]
    have ih := L_tab hto hl m (i + 1) (by omega)
    rw [h6] at ih
    rw [h5, risesB]
    have hlt : (i : Int) < (t.length : Int) := by omega
    have hlt' : i < t.length := by omega
    by_cases c1 : r.t ≤ r0.t
    · simp [-List.length_flatMap, -List.map_take, eF, h1, hlt, hlt', h2, h3, h4, c1, Rw.rises]
    by_cases c2 : r.p ≤ r0.p
    · simp [-List.length_flatMap, -List.map_take, eF, h1, hlt, hlt', h2, h3, h4, c1, c2, Rw.rises]
    by_cases c3 : r.l ≤ r0.l
    · simp [-List.length_flatMap, -List.map_take, eF, h1, hlt, hlt', h2, h3, h4, c1, c2, c3, Rw.rises]
    by_cases c4 : r.s < r0.s
    · simp [-List.length_flatMap, -List.map_take, eF, h1, hlt, hlt', h2, h3, h4, c1, c2, c3, c4, Rw.rises]
    · simp [-List.length_flatMap, -List.map_take, eF, h1, hlt, hlt', h2, h3, h4, c1, c2, c3, c4, Rw.rises]
      have hc : r0.t < r.t ∧ r0.p < r.p ∧ r0.l < r.l ∧ r0.s ≤ r.s := by omega
      exact WL.to ih (by simp) rfl fun x e σ' hh => by simpa [hc] using hh
theorem C_tabValid {t : List Rw} (hl : t.length ≤ 1000000000) : lim T (.call false i_steam_Table_valid [.lst t.length (t.flatMap Rw.enc)] σ) = some (.val (.bool (tabOk t)) σ) := by
  refine call_of T_steam_Table_valid e_steam_Table_valid rfl ?_
  have ha := fun σ => C_sall (σ := σ) (l := t) hl
  cases hc1 : inn t.length 2 20
  · simp [-List.length_flatMap, -List.map_take, eF, C_swithin, hc1, tabOk]
  cases hc2 : allB t Rw.alone
  · simp [-List.length_flatMap, -List.map_take, eF, C_swithin, hc1, hc2, ha, tabOk]
  obtain ⟨o, l, hto⟩ : ∃ o l, t = o :: l := by
    cases t with
    | nil => simp [inn] at hc1
    | cons o l => exact ⟨o, l, rfl⟩
  have hi := inn_iff.1 hc1
  have htl : t.length = l.length + 1 := by subst hto; rfl
  have h1 : (1 : Int) ≤ (t.length : Int) := by omega
  have h2 : t.length - 1 = l.length := by omega
  have h3 : ((t.flatMap Rw.enc).drop 5).take (l.length * 5) = l.flatMap Rw.enc := by
    subst hto
    have := k_self (f := Rw.enc) (w := 5) (fun _ => rfl) l
    simpa using this
  simp [-List.length_flatMap, -List.map_take, eF, C_swithin, hc1, hc2, ha, h1, h2, h3]
  refine WL.to (L_tab (σ := [] :: σ) hto (by omega) l.length 0 (by omega)) (by simp) rfl ?_
  rintro x e σ' ⟨rfl, h⟩
  simp only [List.drop_zero] at h
  unfold tabOk
  cases hc3 : risesB t
  · rw [hc3] at h
    simp at h
    simp [h, hc2, hc1]
  · rw [hc3] at h
    simp at h
    subst h
    simp [-List.length_flatMap, -List.map_take, eF, hc2, hc1]
theorem C_CheckTable {l : List Rw} (hl : l.length ≤ 1000000000) : lim T (.call false i_steam_CheckTable [.lst l.length (l.flatMap Rw.enc)] σ) = some (.val (.int .i64 (if tabOk l then 0 else 1)) σ) := by
  refine call_of T_steam_CheckTable e_steam_CheckTable rfl ?_
  cases hc : tabOk l <;> simp [-List.length_flatMap, -List.map_take, eF, C_tabValid hl, hc]
end Go.Proofs.YtehandllpmlcoaaGreat

/-
  Whether a bed is valid, and whether a model fits it.
-/
set_option linter.unusedVariables false
set_option linter.unusedSimpArgs false
namespace Go.Proofs.YtehandllpmlcoaaGreat
open Go Go.Abs Go.Rock
variable {σ : Stack}

theorem C_rsize {b : Bed} (hx : 1 ≤ b.f.x ∧ b.f.x ≤ 8) (hy : 1 ≤ b.f.y ∧ b.f.y ≤ 8) (hz : 1 ≤ b.f.z ∧ b.f.z ≤ 8) : lim T (.call false i_rock_Bed_size [.agg [.int .i64 b.f.x, .int .i64 b.f.y, .int .i64 b.f.z, .int .i64 b.f.k, .lst b.tab.length (b.tab.flatMap Rw.enc), .int .i64 b.stiff, .int .i64 b.lift, .int .i64 b.deep, .lst b.wells.length (b.wells.flatMap Bore.enc)]] σ) = some (.val (.int .i64 b.size) σ) := by
  refine call_of T_rock_Bed_size e_rock_Bed_size rfl ?_
  obtain ⟨h1, h2⟩ := Fld.sz hx hy hz
  have w1 := w64 (n := b.f.x * b.f.y) (by omega)
  have w2 := w64 (n := b.f.x * b.f.y * b.f.z) (by omega)
  simp [-List.length_flatMap, -List.map_take, eF, w1, w2, Bed.size, Fld.size]

/-! ### The blocks of the wells -/
def boolE (b : Bool) : List D := [.bool b]
/-- Which blocks are used behind the first wells. -/
def usedS (n : Nat) (wells : List Bore) : Nat → List Bool
  | 0 => List.replicate n false
  | i + 1 => match wells[i]? with
    | some w => if inn w.b 0 ((n : Int) - 1) = true ∧ (usedS n wells i)[w.b.toNat]? = some false then (usedS n wells i).set w.b.toNat true else usedS n wells i
    | none => usedS n wells i
theorem usedS_len {n : Nat} {wells : List Bore} : ∀ i, (usedS n wells i).length = n
  | 0 => by simp [usedS]
  | i + 1 => by
    simp only [usedS]
    split
    · split
      · simp [usedS_len i]
      · exact usedS_len i
    · exact usedS_len i
def wellP (n : Nat) (wells : List Bore) (i : Nat) : Bool :=
  match wells[i]? with
  | some w => inn w.b 0 ((n : Int) - 1) && (decide ((usedS n wells i)[w.b.toNat]? = some false) && (inn w.h 0 3000 && inn w.m 0 1000000))
  | none => true
def wellSt (n : Nat) (wells : List Bore) (σ : Stack) (i : Nat) : Stack := [.cells 0 ((usedS n wells i).flatMap boolE), .cells 0 [.sl σ.length 0 0 0 n 1]] :: σ

theorem boolE_at {l : List Bool} {j : Nat} {x : Bool} (h : l[j]? = some x) : ((l.flatMap boolE).drop j) = .bool x :: (l.flatMap boolE).drop (j + 1) := by
  have := k_drop (f := boolE) (w := 1) (fun _ => rfl) h
  simpa [boolE] using this
theorem boolE_set {l : List Bool} {j : Nat} {x : Bool} (h : j < l.length) : (l.flatMap boolE).take j ++ (.bool x :: (l.flatMap boolE).drop (j + 1)) = (l.set j x).flatMap boolE := by
  have := k_set (f := boolE) (w := 1) (fun _ => rfl) (x := x) h
  simpa [boolE] using this
theorem boolE_len {l : List Bool} : (l.flatMap boolE).length = l.length := by
  have := flat_len (f := boolE) (w := 1) (fun _ => rfl) l
  omega

theorem C_wellUsed {n : Nat} {wells : List Bore} (hn : n ≤ 512) {i : Nat} {w : Bore} (hw : wells[i]? = some w) :
    lim T (.call false i_rock_Bed_valid_1 [.agg w.enc, .ref σ.length 1 0 0] ([] :: [] :: [] :: [] :: wellSt n wells σ i)) = some (.val (.bool (wellP n wells i)) ([] :: [] :: [] :: [] :: wellSt n wells σ (i + 1))) := by
  refine call_to T_rock_Bed_valid_1 e_rock_Bed_valid_1 rfl (by simp [wellSt]) ?_
  have hlen := usedS_len (n := n) (wells := wells) i
  have w1 := w64 (n := (n : Int) - 1) (by omega)
  have hwp : wellP n wells i = (inn w.b 0 ((n : Int) - 1) && (decide ((usedS n wells i)[w.b.toNat]? = some false) && (inn w.h 0 3000 && inn w.m 0 1000000))) := by simp [wellP, hw]
  have hus : usedS n wells (i + 1) = if inn w.b 0 ((n : Int) - 1) = true ∧ (usedS n wells i)[w.b.toNat]? = some false then (usedS n wells i).set w.b.toNat true else usedS n wells i := by simp [usedS, hw]
  rw [hwp]
  simp only [wellSt]
  generalize usedS n wells (i + 1) = us' at *
  generalize usedS n wells i = us at *
  cases hc1 : inn w.b 0 ((n : Int) - 1)
  · rw [hc1] at hus
    simp at hus
    subst hus
    simp [-List.length_flatMap, -List.map_take, eF, C_rwithin, w1, hc1]
  · obtain ⟨g1, g2⟩ := inn_iff.1 hc1
    have g3 : w.b < (n : Int) := by omega
    obtain ⟨u, hu⟩ : ∃ u, us[w.b.toNat]? = some u := ⟨_, List.getElem?_eq_getElem (by omega)⟩
    have hat := boolE_at hu
    have hset := boolE_set (l := us) (j := w.b.toNat) (x := true) (by omega)
    have hlen2 : (us.flatMap boolE).length = n := by rw [boolE_len, hlen]
    have hle : w.b.toNat + 1 ≤ n := by omega
    rw [hc1, hu] at hus
    cases u
    · simp at hus
      subst hus
      cases hc2 : inn w.h 0 3000 <;>
        simp [-List.length_flatMap, -List.map_take, eF, C_rwithin, w1, hc1, hu, g1, g3, hat, hset, hlen2, hle, hc2]
    · simp at hus
      subst hus
      simp [-List.length_flatMap, -List.map_take, eF, C_rwithin, w1, hc1, hu, g1, g3, hat, hlen2]

theorem used_inv {n : Nat} {wells : List Bore} : ∀ {i : Nat}, i ≤ wells.length → (∀ j, j < i → wellP n wells j = true) → ∀ k : Nat, k < n → (usedS n wells i)[k]? = some (((wells.take i).map (·.b)).contains (k : Int))
  | 0, _, _, k, hk => by simp [usedS, hk]
  | i + 1, hi, h, k, hk => by
    obtain ⟨w, hw⟩ : ∃ w, wells[i]? = some w := ⟨_, List.getElem?_eq_getElem (by omega)⟩
    have ih := used_inv (i := i) (by omega) (fun j hj => h j (by omega))
    have hp := h i (by omega)
    simp only [wellP, hw, Bool.and_eq_true, decide_eq_true_eq] at hp
    obtain ⟨h1, h2, _⟩ := hp
    obtain ⟨g1, g2⟩ := inn_iff.1 h1
    have ht : wells.take (i + 1) = wells.take i ++ [w] := by rw [List.take_add_one, hw]; rfl
    simp only [usedS, hw]
    rw [if_pos ⟨h1, h2⟩, ht]
    rw [List.getElem?_set]
    by_cases hkw : w.b.toNat = k
    · subst hkw
      have hb : w.b = ((w.b.toNat : Nat) : Int) := by omega
      simp [usedS_len, hk]
      right
      omega
    · rw [if_neg hkw, ih k hk]
      congr 1
      have : ((k : Int) == w.b) = false := by simp; omega
      simp [List.contains_append, this]
      intro hh
      omega

theorem wellsOk_iff {n : Nat} {wells : List Bore} : ∀ (m i : Nat), i + m = wells.length → (∀ j, j < i → wellP n wells j = true) →
    (wellsOk (n : Int) ((wells.take i).map (·.b)) (wells.drop i) = true ↔ ∀ j, i ≤ j → j < wells.length → wellP n wells j = true)
  | 0, i, hi, h => by
    rw [List.drop_eq_nil_of_le (by omega)]
    simp only [wellsOk, true_iff]
    intro j h1 h2
    omega
  | m + 1, i, hi, h => by
    obtain ⟨w, hw⟩ : ∃ w, wells[i]? = some w := ⟨_, List.getElem?_eq_getElem (by omega)⟩
    have hu := used_inv (n := n) (i := i) (by omega) h
    have hone : Bore.ok (n : Int) ((wells.take i).map (·.b)) w = wellP n wells i := by
      simp only [wellP, hw, Bore.ok]
      cases hc : inn w.b 0 ((n : Int) - 1)
      · rfl
      · obtain ⟨g1, g2⟩ := inn_iff.1 hc
        have := hu w.b.toNat (by omega)
        rw [this, show ((w.b.toNat : Nat) : Int) = w.b from by omega]
        cases ((wells.take i).map (·.b)).contains w.b <;> simp
    rw [drop_at hw, wellsOk, hone, Bool.and_eq_true]
    have ht : (wells.take i).map (·.b) ++ [w.b] = (wells.take (i + 1)).map (·.b) := by rw [List.take_add_one, hw]; simp
    rw [ht]
    constructor
    · rintro ⟨h1, h2⟩ j hj1 hj2
      by_cases hji : j = i
      · subst hji; exact h1
      · refine ((wellsOk_iff m (i + 1) (by omega) fun j hj => ?_).1 h2) j (by omega) hj2
        by_cases hji : j = i
        · subst hji; exact h1
        · exact h j (by omega)
    · intro hh
      have h1 := hh i (by omega) (by omega)
      refine ⟨h1, (wellsOk_iff m (i + 1) (by omega) fun j hj => ?_).2 fun j hj1 hj2 => hh j (by omega) hj2⟩
      by_cases hji : j = i
      · subst hji; exact h1
      · exact h j (by omega)

theorem C_wellsAll {n : Nat} {wells : List Bore} (hn : n ≤ 512) (hl : wells.length ≤ 1000000000) : ∃ s,
    lim T (.call false i_rock_all_rock_Bore [.lst wells.length (wells.flatMap Bore.enc), .fn i_rock_Bed_valid_1 [] [.ref σ.length 1 0 0]] ([.cells 0 ((List.replicate n false).flatMap boolE), .cells 0 [.sl σ.length 0 0 0 n 1]] :: σ)) =
      some (.val (.bool (wellsOk (n : Int) [] wells)) (s :: σ)) := by
  have h := all_ofS (eltAgg 3 Bore.enc (fun _ => rfl)) (T := T) (S := wellSt n wells σ) (fv := .fn i_rock_Bed_valid_1 [] [.ref σ.length 1 0 0]) (l := wells) (f := i_rock_all_rock_Bore) (g := i_rock_all_rock_Bore_1) (h := i_slices_ContainsFunc_rock_Bore) (i := i_slices_IndexFunc_rock_Bore) (p := wellP n wells)
    rfl rfl rfl rfl (by omega) rfl rfl rfl (fun i => by simp [wellSt]) (fun i x hx => by
      rw [callv_fn]
      have := C_wellUsed (σ := σ) hn hx
      show R.vals (lim T (.call false i_rock_Bed_valid_1 [.agg x.enc, .ref σ.length 1 0 0] _)) = _
      rw [this]; rfl)
  have he : (!(scanQ (fun i => !wellP n wells i) 0 wells.length).1) = wellsOk (n : Int) [] wells := by
    have h1 := wellsOk_iff (n := n) (wells := wells) wells.length 0 (by omega) (by simp)
    have h2 := scanQ_all (q := fun i => !wellP n wells i) (m := wells.length) (i := 0)
    simp only [List.take_zero, List.map_nil, List.drop_zero] at h1
    cases hw : wellsOk (n : Int) [] wells
    · rw [Bool.not_eq_false']
      cases hs : (scanQ (fun i => !wellP n wells i) 0 wells.length).1
      · have h3 := h2.1 hs
        have h4 := h1.2 fun j _ hj => by have := h3 j hj; simpa using this
        rw [hw] at h4; cases h4
      · rfl
    · rw [Bool.not_eq_true']
      refine h2.2 fun j hj => ?_
      have := h1.1 hw j (by omega) hj
      simpa using this
  rw [he] at h
  refine ⟨[.cells 0 ((usedS n wells (scanQ (fun i => !wellP n wells i) 0 wells.length).2).flatMap boolE), .cells 0 [.sl σ.length 0 0 0 n 1]], ?_⟩
  exact h
end Go.Proofs.YtehandllpmlcoaaGreat

/-
  What a bed with a model is, or an error; rates and plans.
-/
set_option linter.unusedVariables false
set_option linter.unusedSimpArgs false
namespace Go.Proofs.YtehandllpmlcoaaGreat
open Go Go.Abs Go.Rock
variable {σ : Stack}

theorem C_bvalid {b : Bed} (h1 : b.tab.length ≤ 1000000000) (h2 : b.wells.length ≤ 1000000000) : lim T (.call false i_rock_Bed_valid [.agg [.int .i64 b.f.x, .int .i64 b.f.y, .int .i64 b.f.z, .int .i64 b.f.k, .lst b.tab.length (b.tab.flatMap Rw.enc), .int .i64 b.stiff, .int .i64 b.lift, .int .i64 b.deep, .lst b.wells.length (b.wells.flatMap Bore.enc)]] σ) = some (.val (.bool b.valid) σ) := by
  refine call_of T_rock_Bed_valid e_rock_Bed_valid rfl ?_
  have hT := fun σ => C_CheckTable (σ := σ) (l := b.tab) h1
  unfold Bed.valid Bed.ok1
  cases hc1 : b.f.valid
  · simp [-List.length_flatMap, -List.map_take, eF, C_CheckField, Fld.shape, hc1]
  by_cases hc2 : b.f.k < 4
  · simp [-List.length_flatMap, -List.map_take, eF, C_CheckField, Fld.shape, hc1, hc2, show ¬ 4 ≤ b.f.k by omega]
  have hc2' : 4 ≤ b.f.k := by omega
  cases hc3 : tabOk b.tab
  · simp [-List.length_flatMap, -List.map_take, eF, C_CheckField, Fld.shape, hc1, hc2, hT, hc3]
  cases hc4 : inn b.stiff 1 100000
  · simp [-List.length_flatMap, -List.map_take, eF, C_CheckField, Fld.shape, hc1, hc2, hT, hc3, C_rwithin, hc4]
  cases hc5 : inn b.lift 0 1000
  · simp [-List.length_flatMap, -List.map_take, eF, C_CheckField, Fld.shape, hc1, hc2, hT, hc3, C_rwithin, hc4, hc5]
  cases hc6 : inn b.deep 0 3000
  · simp [-List.length_flatMap, -List.map_take, eF, C_CheckField, Fld.shape, hc1, hc2, hT, hc3, C_rwithin, hc4, hc5, hc6]
  by_cases hc7 : 8 < b.wells.length
  · simp [-List.length_flatMap, -List.map_take, eF, C_CheckField, Fld.shape, hc1, hc2, hT, hc3, C_rwithin, hc4, hc5, hc6, hc7, show ¬ b.wells.length ≤ 8 by omega, show (8 : Int) < b.wells.length by omega]
  obtain ⟨g1, g2, g3, g4, g5⟩ := Fld.valid_iff.1 hc1
  obtain ⟨_, g6⟩ := Fld.sz g1 g2 g3
  have hsz := fun σ => C_rsize (σ := σ) (b := b) g1 g2 g3
  have hs : b.size = ((b.n : Nat) : Int) := by unfold Bed.n Bed.size Fld.size; omega
  have hn : b.n ≤ 512 := by unfold Bed.n Bed.size Fld.size; omega
  have hnil : ((List.range b.n).flatMap fun _ => [D.bool false]) = (List.replicate b.n false).flatMap boolE := by
    have : ∀ n, ((List.range n).flatMap fun _ => [D.bool false]) = (List.replicate n false).flatMap boolE := by
      intro n
      induction n with
      | zero => rfl
      | succ n ih => rw [List.range_succ, List.flatMap_append, ih, List.replicate_succ']; simp [boolE]
    exact this _
  obtain ⟨s, hall⟩ := C_wellsAll (σ := σ) (n := b.n) (wells := b.wells) hn h2
  rw [← hs] at hall
  have hroom : (b.n : Int) ≤ 70368744177664 := by omega
  rw [hs] at hsz
  simp [-List.length_flatMap, -List.map_take, eF, C_CheckField, Fld.shape, hc1, hc2, hT, hc3, C_rwithin, hc4, hc5, hc6, show ¬ (8 : Int) < b.wells.length by omega, show b.wells.length ≤ 8 by omega, hsz, room, hroom, hnil, hall, hc2']
end Go.Proofs.YtehandllpmlcoaaGreat

/-
  The values of a model; whether it fits; rates and plans.
-/
set_option linter.unusedVariables false
set_option linter.unusedSimpArgs false
namespace Go.Proofs.YtehandllpmlcoaaGreat
open Go Go.Abs Go.Rock
variable {σ : Stack}

theorem intE_sub {l : List Int} {i n : Nat} : ((l.flatMap intE).drop i).take n = ((l.drop i).take n).flatMap intE := by
  simp only [show intE = fun n => [D.int .i64 n] from rfl, flat_one, ← List.map_drop, ← List.map_take]
theorem intE_at {l : List Int} {j : Nat} {x : Int} (h : l[j]? = some x) : ((l.flatMap intE).drop j).take 1 = [.int .i64 x] := by
  have := flat_at (f := intE) (w := 1) (fun _ => rfl) h
  simpa using this

theorem cl_rw (l : List Rw) : D.cleanL (l.flatMap Rw.enc) = true := k_clean (fun x => by simp) l
theorem cl_bore (l : List Bore) : D.cleanL (l.flatMap Bore.enc) = true := k_clean (fun x => by simp) l
theorem cl_int (l : List Int) : D.cleanL (l.flatMap intE) = true := k_clean (fun x => by simp) l
theorem cl_blk (l : List Rock.Blk) : D.cleanL (l.flatMap Blk.enc) = true := k_clean (fun x => by simp) l

/-- What is known of a valid bed. -/
structure Bv (b : Bed) : Prop where
  x : 1 ≤ b.f.x ∧ b.f.x ≤ 8
  y : 1 ≤ b.f.y ∧ b.f.y ≤ 8
  z : 1 ≤ b.f.z ∧ b.f.z ≤ 8
  k : 4 ≤ b.f.k ∧ b.f.k ≤ 6
  sz : b.f.size = ((b.n : Nat) : Int)
  n : 1 ≤ b.n ∧ b.n ≤ 64
  tab : tabOk b.tab = true
  stiff : 1 ≤ b.stiff ∧ b.stiff ≤ 100000
  lift : 0 ≤ b.lift ∧ b.lift ≤ 1000
  deep : 0 ≤ b.deep ∧ b.deep ≤ 3000
  wells : b.wells.length ≤ 8
  ok : wellsOk b.size [] b.wells = true
theorem Bv.of {b : Bed} (h : b.valid = true) : Bv b := by
  simp only [Bed.valid, Bed.ok1, Bool.and_eq_true, decide_eq_true_eq] at h
  obtain ⟨⟨h1, h2, h3, h4, h5, h6, h7⟩, h8⟩ := h
  obtain ⟨g1, g2, g3, g4, g5⟩ := Fld.valid_iff.1 h1
  obtain ⟨_, g6⟩ := Fld.sz g1 g2 g3
  refine ⟨g1, g2, g3, ⟨h2, g5.2⟩, ?_, ?_, h3, inn_iff.1 h4, inn_iff.1 h5, inn_iff.1 h6, h7, h8⟩
  · unfold Bed.n Bed.size Fld.size; omega
  · unfold Bed.n Bed.size; unfold Fld.size at g4 ⊢; omega
theorem Bv.fv {b : Bed} (h : Bv b) : b.f.valid = true := Fld.valid_iff.2 ⟨h.x, h.y, h.z, by have := h.sz; have := h.n; omega, by have := h.k; omega⟩

/-- A model whose values are as many as the bed asks. -/
structure Mv (b : Bed) (m : Mdl) : Prop where
  bv : Bv b
  len : (m.vals.length : Int) = b.f.k * b.f.size
theorem Mv.le {b : Bed} {m : Mdl} (h : Mv b m) : 4 * b.n ≤ m.vals.length ∧ m.vals.length ≤ 384 := by
  have h1 := h.bv.k; have h2 := h.bv.sz; have h3 := h.bv.n; have h4 := h.len
  have h5 := (Int.mul_le_mul_of_nonneg_right h1.1 (by omega : (0 : Int) ≤ b.f.size))
  have h6 := mul_b (a := b.f.k) (b := b.f.size) (A := 6) (B := 64) (by omega) h1.2 (by omega) (by omega)
  omega
theorem C_rsize' {b : Bed} (h : Bv b) : lim T (.call false i_rock_Bed_size [.agg [.int .i64 b.f.x, .int .i64 b.f.y, .int .i64 b.f.z, .int .i64 b.f.k, .lst b.tab.length (b.tab.flatMap Rw.enc), .int .i64 b.stiff, .int .i64 b.lift, .int .i64 b.deep, .lst b.wells.length (b.wells.flatMap Bore.enc)]] σ) = some (.val (.int .i64 b.n) σ) := by
  have := C_rsize (σ := σ) (b := b) h.x h.y h.z
  rw [show b.size = ((b.n : Nat) : Int) from h.sz] at this
  exact this

theorem C_kind {b : Bed} {m : Mdl} (h : Mv b m) {k : Nat} (hk : k < 4) : lim T (.call false i_rock_bedded_kind [.agg [.int .i64 b.f.x, .int .i64 b.f.y, .int .i64 b.f.z, .int .i64 b.f.k, .lst b.tab.length (b.tab.flatMap Rw.enc), .int .i64 b.stiff, .int .i64 b.lift, .int .i64 b.deep, .lst b.wells.length (b.wells.flatMap Bore.enc), .str m.name, .lst m.vals.length (m.vals.flatMap intE)], .int .i64 k] σ) = some (.val (.lst b.n ((kindL b m k).flatMap intE)) σ) := by
  refine call_of T_rock_bedded_kind e_rock_bedded_kind rfl ?_
  obtain ⟨h1, h2⟩ := h.le
  have h3 := h.bv.n
  have hs := fun σ => C_rsize' (σ := σ) h.bv
  have e1 : (k : Int) * (b.n : Int) = ((k * b.n : Nat) : Int) := by push_cast; rfl
  have e2 : ((k : Int) + 1) * (b.n : Int) = (((k + 1) * b.n : Nat) : Int) := by push_cast; rfl
  have b1 : (k + 1) * b.n ≤ m.vals.length := Nat.le_trans (Nat.mul_le_mul_right _ (by omega : k + 1 ≤ 4)) h1
  have b2 : (k + 1) * b.n = k * b.n + b.n := Nat.succ_mul _ _
  have w1 := w64 (n := (k : Int) * b.n) (by rw [e1]; omega)
  have w2 := w64 (n := (k : Int) + 1) (by omega)
  have w3 := w64 (n := ((k : Int) + 1) * b.n) (by rw [e2]; omega)
  have e3 : (k + 1) * b.n - k * b.n = b.n := by omega
  have hsub := intE_sub (l := m.vals) (i := k * b.n) (n := b.n)
  have hle : (k : Int) * b.n ≤ ((k : Int) + 1) * b.n := by rw [e1, e2]; omega
  simp [-List.length_flatMap, -List.map_take, eF, hs, w1, w2, w3]
  rw [e1, e2]
  have c1 : (0 : Int) ≤ ((k * b.n : Nat) : Int) := by omega
  have c2 : ((k * b.n : Nat) : Int) ≤ (((k + 1) * b.n : Nat) : Int) := by omega
  have c3 : (((k + 1) * b.n : Nat) : Int) ≤ (m.vals.length : Int) := by omega
  have c4 : (0 : Int) ≤ (((k + 1) * b.n : Nat) : Int) := by omega
  simp only [c1, c2, c3, c4, and_self, if_true, Int.toNat_natCast, Option.bind_some, Option.map_some, WD_some, e3, hsub]
  simp [-List.length_flatMap, -List.map_take, eF, kindL, hle, e3, hsub, cl_int]

theorem kindL_len {b : Bed} {m : Mdl} (h : Mv b m) {k : Nat} (hk : k < 4) : (kindL b m k).length = b.n := by
  obtain ⟨h1, h2⟩ := h.le
  have b1 : (k + 1) * b.n ≤ m.vals.length := Nat.le_trans (Nat.mul_le_mul_right _ (by omega : k + 1 ≤ 4)) h1
  have b2 : (k + 1) * b.n = k * b.n + b.n := Nat.succ_mul _ _
  simp [kindL]; omega
theorem kindL_at {b : Bed} {m : Mdl} (h : Mv b m) {k i : Nat} (hk : k < 4) (hi : i < b.n) : (kindL b m k)[i]? = some (kindAt b m k i) := by
  obtain ⟨h1, h2⟩ := h.le
  have b1 : (k + 1) * b.n ≤ m.vals.length := Nat.le_trans (Nat.mul_le_mul_right _ (by omega : k + 1 ≤ 4)) h1
  have b2 : (k + 1) * b.n = k * b.n + b.n := Nat.succ_mul _ _
  have h3 : k * b.n + i < m.vals.length := by omega
  simp only [kindL, kindAt, List.getElem?_take, List.getElem?_drop, if_pos hi, List.getElem?_eq_getElem h3, Option.getD_some]
theorem C_hold {b : Bed} {m : Mdl} (h : Mv b m) {i : Nat} (hi : i < b.n) : lim T (.call false i_rock_bedded_hold [.agg [.int .i64 b.f.x, .int .i64 b.f.y, .int .i64 b.f.z, .int .i64 b.f.k, .lst b.tab.length (b.tab.flatMap Rw.enc), .int .i64 b.stiff, .int .i64 b.lift, .int .i64 b.deep, .lst b.wells.length (b.wells.flatMap Bore.enc), .str m.name, .lst m.vals.length (m.vals.flatMap intE)], .int .i64 i] σ) = some (.val (.int .i64 (hold b m i)) σ) := by
  refine call_of T_rock_bedded_hold e_rock_bedded_hold rfl ?_
  have hk := fun σ => C_kind (σ := σ) h (k := 0) (by omega)
  have ha := intE_at (kindL_at h (k := 0) (by omega) hi)
  simp only [Int.ofNat_zero] at hk
  simp [-List.length_flatMap, -List.map_take, eF, hk, hi, ha, hold]
theorem C_open {b : Bed} {m : Mdl} (h : Mv b m) {i : Nat} (hi : i < b.n) : lim T (.call false i_rock_bedded_open [.agg [.int .i64 b.f.x, .int .i64 b.f.y, .int .i64 b.f.z, .int .i64 b.f.k, .lst b.tab.length (b.tab.flatMap Rw.enc), .int .i64 b.stiff, .int .i64 b.lift, .int .i64 b.deep, .lst b.wells.length (b.wells.flatMap Bore.enc), .str m.name, .lst m.vals.length (m.vals.flatMap intE)], .int .i64 i] σ) = some (.val (.int .i64 (opn b m i)) σ) := by
  refine call_of T_rock_bedded_open e_rock_bedded_open rfl ?_
  have hk := fun σ => C_kind (σ := σ) h (k := 1) (by omega)
  have ha := intE_at (kindL_at h (k := 1) (by omega) hi)
  simp at hk
  simp [-List.length_flatMap, -List.map_take, eF, hk, hi, ha, opn]
theorem C_warm {b : Bed} {m : Mdl} (h : Mv b m) {i : Nat} (hi : i < b.n) : lim T (.call false i_rock_bedded_warm [.agg [.int .i64 b.f.x, .int .i64 b.f.y, .int .i64 b.f.z, .int .i64 b.f.k, .lst b.tab.length (b.tab.flatMap Rw.enc), .int .i64 b.stiff, .int .i64 b.lift, .int .i64 b.deep, .lst b.wells.length (b.wells.flatMap Bore.enc), .str m.name, .lst m.vals.length (m.vals.flatMap intE)], .int .i64 i] σ) = some (.val (.int .i64 (warm b m i)) σ) := by
  refine call_of T_rock_bedded_warm e_rock_bedded_warm rfl ?_
  have hk := fun σ => C_kind (σ := σ) h (k := 2) (by omega)
  have ha := intE_at (kindL_at h (k := 2) (by omega) hi)
  simp at hk
  simp [-List.length_flatMap, -List.map_take, eF, hk, hi, ha, warm]
theorem C_feed {b : Bed} {m : Mdl} (h : Mv b m) {i : Nat} (hi : i < b.n) : lim T (.call false i_rock_bedded_feed [.agg [.int .i64 b.f.x, .int .i64 b.f.y, .int .i64 b.f.z, .int .i64 b.f.k, .lst b.tab.length (b.tab.flatMap Rw.enc), .int .i64 b.stiff, .int .i64 b.lift, .int .i64 b.deep, .lst b.wells.length (b.wells.flatMap Bore.enc), .str m.name, .lst m.vals.length (m.vals.flatMap intE)], .int .i64 i] σ) = some (.val (.int .i64 (feed b m i)) σ) := by
  refine call_of T_rock_bedded_feed e_rock_bedded_feed rfl ?_
  have hk := fun σ => C_kind (σ := σ) h (k := 3) (by omega)
  have ha := intE_at (kindL_at h (k := 3) (by omega) hi)
  simp at hk
  simp [-List.length_flatMap, -List.map_take, eF, hk, hi, ha, feed]

/-! ### Does a model fit? -/
theorem C_fits1 {lo hi n : Int} : lim T (.call false i_rock_bedded_fits_1 [.int .i64 n, .ref σ.length 0 0 0] ([] :: [] :: [] :: [] :: [.cells 0 [.int .i64 lo, .int .i64 hi]] :: σ)) = some (.val (.bool (inn n lo hi)) ([] :: [] :: [] :: [] :: [.cells 0 [.int .i64 lo, .int .i64 hi]] :: σ)) := by
  refine call_of T_rock_bedded_fits_1 e_rock_bedded_fits_1 rfl ?_
  simp [-List.length_flatMap, -List.map_take, eF, C_rwithin]
theorem C_fitsAll {b : Bed} {m : Mdl} (h : Mv b m) {k : Nat} (hk : k < 4) {lo hi : Int} : lim T (.call false i_rock_all_int [.lst b.n ((kindL b m k).flatMap intE), .fn i_rock_bedded_fits_1 [] [.ref σ.length 0 0 0]] ([.cells 0 [.int .i64 lo, .int .i64 hi]] :: σ)) =
    some (.val (.bool (allB (kindL b m k) fun n => inn n lo hi)) ([.cells 0 [.int .i64 lo, .int .i64 hi]] :: σ)) := by
  have hl := kindL_len h hk
  have hn := h.bv.n
  have := all_ofC (eltInt .i64) (T := T) (f := i_rock_all_int) (g := i_rock_all_int_1) (h := i_slices_ContainsFunc_int) (i := i_slices_IndexFunc_int) (l := kindL b m k) (p := fun n => inn n lo hi) (fv := .fn i_rock_bedded_fits_1 [] [.ref σ.length 0 0 0]) (σ := [.cells 0 [.int .i64 lo, .int .i64 hi]] :: σ)
    rfl rfl rfl rfl (by omega) rfl rfl rfl (fun x _ => by
      rw [callv_fn]
      have := C_fits1 (σ := σ) (lo := lo) (hi := hi) (n := x)
      show R.vals (lim T (.call false i_rock_bedded_fits_1 [.int .i64 x, .ref σ.length 0 0 0] _)) = _
      rw [this]; rfl)
  rw [hl] at this
  exact this
def rgOf : Nat → Int × Int
  | 0 => (1000, 100000)
  | 1 => (0, 1000)
  | 2 => (0, 3000)
  | _ => (0, 1000)
def fitsFrom (b : Bed) (m : Mdl) (i : Nat) : Nat → Bool
  | 0 => true
  | n + 1 => allB (kindL b m i) (fun x => inn x (rgOf i).1 (rgOf i).2) && fitsFrom b m (i + 1) n
theorem L_fits {b : Bed} {m : Mdl} (h : Mv b m) : ∀ (n i : Nat), i + n = 4 →
    WL T [1, 17, 18] true f_rock_bedded_fits_l9 [(1, .cref [.int .i64 b.f.x, .int .i64 b.f.y, .int .i64 b.f.z, .int .i64 b.f.k, .lst b.tab.length (b.tab.flatMap Rw.enc), .int .i64 b.stiff, .int .i64 b.lift, .int .i64 b.deep, .lst b.wells.length (b.wells.flatMap Bore.enc), .str m.name, .lst m.vals.length (m.vals.flatMap intE)]), (17, .agg [.int .i64 1000, .int .i64 100000, .int .i64 0, .int .i64 1000, .int .i64 0, .int .i64 3000, .int .i64 0, .int .i64 1000]), (18, .int .i64 i)] σ
      (fun x e σ' => σ' = σ ∧ if fitsFrom b m i n = true then x = .exit 0 else x = .ret ∧ get e 2 = .bool false)
  | 0, i, hi => by
    refine WL_stepS e_rock_bedded_fits_l9 ?_
    obtain rfl : i = 4 := by omega
    simp [-List.length_flatMap, -List.map_take, eF, fitsFrom, cl_rw, cl_bore, cl_int]
  | n + 1, i, hi => by
    refine WL_stepS e_rock_bedded_fits_l9 ?_
    have hk : i < 4 := by omega
    have hK := fun σ => C_kind (σ := σ) h hk
    have ih := L_fits h n (i + 1) (by omega)
    have hA := C_fitsAll (σ := σ) h hk (lo := (rgOf i).1) (hi := (rgOf i).2)
    simp only [fitsFrom]
    rcases Bool.eq_false_or_eq_true (allB (kindL b m i) (fun x => inn x (rgOf i).1 (rgOf i).2)) with hc | hc
    · rw [hc] at hA
      obtain rfl | rfl | rfl | rfl : i = 0 ∨ i = 1 ∨ i = 2 ∨ i = 3 := by omega
      all_goals
        simp only [rgOf] at hA hc ⊢
        try simp at hK
        simp [-List.length_flatMap, -List.map_take, eF, hK, hA, hc, cl_rw, cl_bore, cl_int]
        exact WL.to ih (by simp [cl_rw, cl_bore, cl_int]) (by simp [cl_rw, cl_bore, cl_int]) fun x e σ' hh => by simpa [hc] using hh
    · rw [hc] at hA
      obtain rfl | rfl | rfl | rfl : i = 0 ∨ i = 1 ∨ i = 2 ∨ i = 3 := by omega
      all_goals
        simp only [rgOf] at hA hc ⊢
        try simp at hK
        simp [-List.length_flatMap, -List.map_take, eF, hK, hA, hc, cl_rw, cl_bore, cl_int]
end Go.Proofs.YtehandllpmlcoaaGreat

/-
  Whether a model fits; a bed with a model; rates and plans; the first state; weights and pressures.
-/
set_option linter.unusedVariables false
set_option linter.unusedSimpArgs false
namespace Go.Proofs.YtehandllpmlcoaaGreat
open Go Go.Abs Go.Rock
variable {σ : Stack}

theorem Mv.of {b : Bed} {m : Mdl} (h : Bv b) (hc : checkModels b.f [m] = 0) : Mv b m := by
  refine ⟨h, ?_⟩
  simp only [checkModels, h.fv, if_true, Fld.models] at hc
  have h1 : inn (([m] : List Mdl).length : Nat) 1 40 = true := by simp [inn]
  rw [if_pos h1] at hc
  simp only [Fld.each] at hc
  split at hc
  · rename_i hm
    unfold Fld.model at hm
    split at hm
    · split at hm
      · rename_i hh; exact hh.1
      · cases hm
    · cases hm
  · rename_i hm; exact absurd hc hm
theorem C_fits {b : Bed} {m : Mdl} (h : Bv b) (hn : m.name.length ≤ 1000000000) (hl : m.vals.length ≤ 1000000000) : lim T (.call false i_rock_bedded_fits [.agg [.int .i64 b.f.x, .int .i64 b.f.y, .int .i64 b.f.z, .int .i64 b.f.k, .lst b.tab.length (b.tab.flatMap Rw.enc), .int .i64 b.stiff, .int .i64 b.lift, .int .i64 b.deep, .lst b.wells.length (b.wells.flatMap Bore.enc), .str m.name, .lst m.vals.length (m.vals.flatMap intE)]] σ) = some (.val (.bool (fits b m)) σ) := by
  refine call_of T_rock_bedded_fits e_rock_bedded_fits rfl ?_
  have hC := fun σ => C_CheckModels (σ := σ) (f := b.f) (l := [m]) (by simpa using ⟨hn, hl⟩) (by simp)
  simp at hC
  by_cases hc : checkModels b.f [m] = 0
  · have hm := Mv.of h hc
    simp [-List.length_flatMap, -List.map_take, eF, hC, hc]
    refine WL.to (L_fits (σ := [] :: σ) hm 4 0 (by omega)) (by simp) rfl ?_
    rintro x e σ' ⟨rfl, hh⟩
    have he : fitsFrom b m 0 4 = fits b m := by
      simp [fitsFrom, fits, hc, rgOf]
    rw [he] at hh
    cases hf : fits b m
    · rw [hf] at hh
      simp at hh
      simp [hh]
    · rw [hf] at hh
      simp at hh
      subst hh
      simp [-List.length_flatMap, -List.map_take, eF]
  · simp [-List.length_flatMap, -List.map_take, eF, hC, hc, fits]
theorem C_bed {b : Bed} {m : Mdl} (h1 : b.tab.length ≤ 1000000000) (h2 : b.wells.length ≤ 1000000000) (hn : m.name.length ≤ 1000000000) (hl : m.vals.length ≤ 1000000000) (hb : Bd b m = true) :
    lim T (.call false i_rock_bed [.agg [.int .i64 b.f.x, .int .i64 b.f.y, .int .i64 b.f.z, .int .i64 b.f.k, .lst b.tab.length (b.tab.flatMap Rw.enc), .int .i64 b.stiff, .int .i64 b.lift, .int .i64 b.deep, .lst b.wells.length (b.wells.flatMap Bore.enc)], .agg [.str m.name, .lst m.vals.length (m.vals.flatMap intE)]] σ) = some (.val (.tup [.agg [.int .i64 b.f.x, .int .i64 b.f.y, .int .i64 b.f.z, .int .i64 b.f.k, .lst b.tab.length (b.tab.flatMap Rw.enc), .int .i64 b.stiff, .int .i64 b.lift, .int .i64 b.deep, .lst b.wells.length (b.wells.flatMap Bore.enc), .str m.name, .lst m.vals.length (m.vals.flatMap intE)], .int .i64 0]) σ) := by
  refine call_of T_rock_bed e_rock_bed rfl ?_
  simp only [Bd, Bool.and_eq_true] at hb
  have hf := fun σ => C_fits (σ := σ) (Bv.of hb.1) hn hl
  simp [-List.length_flatMap, -List.map_take, eF, C_bvalid h1 h2, hb.1, hf, hb.2, cl_rw, cl_bore, cl_int]
theorem C_bedNo {b : Bed} {m : Mdl} (h1 : b.tab.length ≤ 1000000000) (h2 : b.wells.length ≤ 1000000000) (hn : m.name.length ≤ 1000000000) (hl : m.vals.length ≤ 1000000000) (hb : Bd b m = false) : ∃ d,
    lim T (.call false i_rock_bed [.agg [.int .i64 b.f.x, .int .i64 b.f.y, .int .i64 b.f.z, .int .i64 b.f.k, .lst b.tab.length (b.tab.flatMap Rw.enc), .int .i64 b.stiff, .int .i64 b.lift, .int .i64 b.deep, .lst b.wells.length (b.wells.flatMap Bore.enc)], .agg [.str m.name, .lst m.vals.length (m.vals.flatMap intE)]] σ) = some (.val (.tup [.agg d, .int .i64 1]) σ) ∧ d.length = 11 ∧ D.cleanL d = true := by
  refine ⟨[(.int .i64 0), (.int .i64 0), (.int .i64 0), (.int .i64 0), .nils, (.int .i64 0), (.int .i64 0), (.int .i64 0), .nils, (.str []), .nils], ?_, rfl, by simp⟩
  refine call_of T_rock_bed e_rock_bed rfl ?_
  cases hc : b.valid
  · simp [-List.length_flatMap, -List.map_take, eF, C_bvalid h1 h2, hc]
  · have hf := fun σ => C_fits (σ := σ) (Bv.of hc) hn hl
    have hb' : fits b m = false := by simpa [Bd, hc] using hb
    simp [-List.length_flatMap, -List.map_take, eF, C_bvalid h1 h2, hc, hf, hb']

/-! ### Rates and plans -/
theorem C_rate1 {n : Int} : lim T (.call false i_rock_Bed_rates_1 [.int .i64 n] σ) = some (.val (.bool (inn n (-100000) 100000)) σ) := by
  refine call_of T_rock_Bed_rates_1 e_rock_Bed_rates_1 rfl ?_
  simp [-List.length_flatMap, -List.map_take, eF, C_rwithin]
theorem C_rallInt {l : List Int} {p : Int → Bool} {fv : D} (hl : l.length ≤ 1000000000) (ht : Tests T fv (fun n => .int .i64 n) p l) (hc : fv.cells = some [fv]) :
    lim T (.call false i_rock_all_int [.lst l.length (l.flatMap intE), fv] σ) = some (.val (.bool (allB l p)) σ) :=
  all_of (eltInt .i64) (f := i_rock_all_int) (g := i_rock_all_int_1) (h := i_slices_ContainsFunc_int) (i := i_slices_IndexFunc_int) (l := l) (p := p) (fv := fv) rfl rfl rfl rfl (by omega) ht hc
theorem C_rates {b : Bed} {l : List Int} (hl : l.length ≤ 1000000000) : lim T (.call false i_rock_Bed_rates [.agg [.int .i64 b.f.x, .int .i64 b.f.y, .int .i64 b.f.z, .int .i64 b.f.k, .lst b.tab.length (b.tab.flatMap Rw.enc), .int .i64 b.stiff, .int .i64 b.lift, .int .i64 b.deep, .lst b.wells.length (b.wells.flatMap Bore.enc)], .lst l.length (l.flatMap intE)] σ) = some (.val (.int .i64 (ratesE b l)) σ) := by
  refine call_of T_rock_Bed_rates e_rock_Bed_rates rfl ?_
  have ha := fun σ => C_rallInt (σ := σ) (l := l) (p := fun n => inn n (-100000) 100000) (fv := .fn i_rock_Bed_rates_1 [] []) hl (Tests.fn fun x _ σ => C_rate1) rfl
  unfold ratesE
  by_cases hc1 : l.length = b.wells.length
  · rw [← hc1]
    cases hc2 : allB l (fun n => inn n (-100000) 100000) <;> simp [-List.length_flatMap, -List.map_take, eF, hc1, ha, hc2, hc1 ▸ ha]
  · simp [-List.length_flatMap, -List.map_take, eF, hc1, show ¬ (l.length : Int) = b.wells.length by omega]
def inL (l : List Int) : List D := [.lst l.length (l.flatMap intE)]
theorem L_plan {b : Bed} {plan : List (List Int)} (hl : plan.length ≤ 1000000000) (hs : ∀ l ∈ plan, l.length ≤ 1000000000) : ∀ (m i : Nat), i + m = plan.length →
    WL T [2, 11, 12, 13] false f_rock_Bed_plan_l10 [(2, .cref [.int .i64 b.f.x, .int .i64 b.f.y, .int .i64 b.f.z, .int .i64 b.f.k, .lst b.tab.length (b.tab.flatMap Rw.enc), .int .i64 b.stiff, .int .i64 b.lift, .int .i64 b.deep, .lst b.wells.length (b.wells.flatMap Bore.enc)]), (11, .lst plan.length (plan.flatMap inL)), (12, .int .i64 plan.length), (13, .int .i64 i)] σ
      (fun x e σ' => σ' = σ ∧ if firstE (ratesE b) (plan.drop i) = 0 then x = .exit 0 else x = .ret ∧ get e 4 = .int .i64 (firstE (ratesE b) (plan.drop i)))
  | 0, i, hi => by
    refine WL_step e_rock_Bed_plan_l10 ?_
    have h1 : ¬ i < plan.length := by omega
    have h2 : plan.drop i = [] := List.drop_eq_nil_of_le (by omega)
    simp [-List.length_flatMap, -List.map_take, eF, h1, h2, firstE]
  | m + 1, i, hi => by
    refine WL_step e_rock_Bed_plan_l10 ?_
    have h1 : i < plan.length := by omega
    obtain ⟨l, hx⟩ : ∃ l, plan[i]? = some l := ⟨_, List.getElem?_eq_getElem h1⟩
    have h2 := flat_at (f := inL) (w := 1) (fun _ => rfl) hx
    simp only [inL, Nat.mul_one] at h2
    have h4 := wnext h1 (by omega)
    have h5 := drop_at hx
    have hC := fun σ => C_rates (σ := σ) (b := b) (l := l) (hs l (List.mem_of_getElem? hx))
    rw [h5, firstE]
    have ih := L_plan (b := b) hl hs m (i + 1) (by omega)
    by_cases hc : ratesE b l = 0
    · simp [-List.length_flatMap, -List.map_take, eF, h1, h2, h4, hC, hc, inL]
      exact WL.to ih (by simp [inL]) rfl fun x e σ' hh => by simpa [hc] using hh
    · simp [-List.length_flatMap, -List.map_take, eF, h1, h2, h4, hC, hc, inL]
theorem C_plan {b : Bed} {plan : List (List Int)} (hl : plan.length ≤ 1000000000) (hs : ∀ l ∈ plan, l.length ≤ 1000000000) :
    lim T (.call false i_rock_Bed_plan [.agg [.int .i64 b.f.x, .int .i64 b.f.y, .int .i64 b.f.z, .int .i64 b.f.k, .lst b.tab.length (b.tab.flatMap Rw.enc), .int .i64 b.stiff, .int .i64 b.lift, .int .i64 b.deep, .lst b.wells.length (b.wells.flatMap Bore.enc)], .lst plan.length (plan.flatMap inL)] σ) = some (.val (.int .i64 (planE b plan)) σ) := by
  refine call_of T_rock_Bed_plan e_rock_Bed_plan rfl ?_
  unfold planE
  by_cases hc : 200 < plan.length
  · simp [-List.length_flatMap, -List.map_take, eF, hc, show (200 : Int) < plan.length by omega]
  · simp [-List.length_flatMap, -List.map_take, eF, hc, show ¬ (200 : Int) < plan.length by omega]
    refine WL.to (L_plan (σ := [] :: σ) (b := b) hl hs plan.length 0 (by omega)) (by simp) rfl ?_
    rintro x e σ' ⟨rfl, h⟩
    simp only [List.drop_zero] at h
    by_cases hc2 : firstE (ratesE b) plan = 0
    · rw [if_pos hc2] at h
      subst h
      simp [-List.length_flatMap, -List.map_take, eF, hc2, show plan.length ≤ 200 by omega]
    · rw [if_neg hc2] at h
      obtain ⟨rfl, h⟩ := h
      simp [h, show ¬ 200 < plan.length by omega]
end Go.Proofs.YtehandllpmlcoaaGreat

/-
  The first state; weights and pressures.
-/
set_option linter.unusedVariables false
set_option linter.unusedSimpArgs false
namespace Go.Proofs.YtehandllpmlcoaaGreat
open Go Go.Abs Go.Rock
variable {σ : Stack}

/-- What is known of a model that fits. -/
structure Fv (b : Bed) (m : Mdl) : Prop extends Mv b m where
  hold : ∀ i, i < b.n → 1000 ≤ Rock.hold b m i ∧ Rock.hold b m i ≤ 100000
  opn : ∀ i, i < b.n → 0 ≤ Rock.opn b m i ∧ Rock.opn b m i ≤ 1000
  warm : ∀ i, i < b.n → 0 ≤ Rock.warm b m i ∧ Rock.warm b m i ≤ 3000
  feed : ∀ i, i < b.n → 0 ≤ Rock.feed b m i ∧ Rock.feed b m i ≤ 1000
theorem Fv.of {b : Bed} {m : Mdl} (h : Bd b m = true) : Fv b m := by
  simp only [Bd, fits, Bool.and_eq_true, decide_eq_true_eq] at h
  obtain ⟨h1, h2, h3, h4, h5, h6⟩ := h
  have hm := Mv.of (Bv.of h1) h2
  have key : ∀ {k : Nat} {lo hi : Int}, k < 4 → allB (kindL b m k) (fun n => inn n lo hi) = true → ∀ i, i < b.n → lo ≤ kindAt b m k i ∧ kindAt b m k i ≤ hi := by
    intro k lo hi hk ha i hi'
    exact inn_iff.1 (allB_iff.1 ha _ (List.mem_of_getElem? (kindL_at hm hk hi')))
  exact ⟨hm, key (by omega) h3, key (by omega) h4, key (by omega) h5, key (by omega) h6⟩

theorem weight_b {b : Bed} (h : Bv b) {i : Nat} (hi : i < b.n) : 0 ≤ weight b i ∧ weight b i ≤ 64000 := by
  have hl := h.lift; have hn := h.n
  have hle : i / (b.f.x.toNat * b.f.y.toNat) ≤ i := Nat.div_le_self _ _
  have hq := Int.natCast_nonneg (i / (b.f.x.toNat * b.f.y.toNat))
  have hle2 : ((i / (b.f.x.toNat * b.f.y.toNat) : Nat) : Int) ≤ 64 := by
    have : i / (b.f.x.toNat * b.f.y.toNat) ≤ 64 := by omega
    exact Int.ofNat_le.2 this
  unfold weight
  exact mul_n (A := 64) (B := 1000) hq hle2 hl.1 hl.2
theorem C_weight {b : Bed} {m : Mdl} (h : Bv b) {i : Nat} (hi : i < b.n) : lim T (.call false i_rock_bedded_weight [.agg [.int .i64 b.f.x, .int .i64 b.f.y, .int .i64 b.f.z, .int .i64 b.f.k, .lst b.tab.length (b.tab.flatMap Rw.enc), .int .i64 b.stiff, .int .i64 b.lift, .int .i64 b.deep, .lst b.wells.length (b.wells.flatMap Bore.enc), .str m.name, .lst m.vals.length (m.vals.flatMap intE)], .int .i64 i] σ) = some (.val (.int .i64 (weight b i)) σ) := by
  refine call_of T_rock_bedded_weight e_rock_bedded_weight rfl ?_
  have hx := h.x; have hy := h.y; have hn := h.n
  obtain ⟨s1, _⟩ := Fld.sz h.x h.y h.z
  have w1 := w64 (n := b.f.x * b.f.y) (by omega)
  have e1 : b.f.x * b.f.y = ((b.f.x.toNat * b.f.y.toNat : Nat) : Int) := by push_cast; rw [Int.toNat_of_nonneg (by omega), Int.toNat_of_nonneg (by omega)]
  have e2 : (i : Int) / (b.f.x * b.f.y) = ((i / (b.f.x.toNat * b.f.y.toNat) : Nat) : Int) := by
    rw [e1]; rfl
  have hle : i / (b.f.x.toNat * b.f.y.toNat) ≤ i := Nat.div_le_self _ _
  have hw := weight_b h hi
  have hq : (0 : Int) ≤ (i : Int) / (b.f.x * b.f.y) := by rw [e2]; exact Int.natCast_nonneg _
  have hq2 : (i : Int) / (b.f.x * b.f.y) ≤ 64 := by
    rw [e2]; have : i / (b.f.x.toNat * b.f.y.toNat) ≤ 64 := by omega
    exact Int.ofNat_le.2 this
  have w2 := w64 (n := (i : Int) / (b.f.x * b.f.y)) (by omega)
  have w3 := w64 (n := weight b i) (by omega)
  have hne : ¬ b.f.x * b.f.y = 0 := by omega
  have hnx : ¬ b.f.x = 0 := by omega
  have hny : ¬ b.f.y = 0 := by omega
  have e3 : (i : Int) / (b.f.x * b.f.y) * b.lift = weight b i := by rw [e2]; rfl
  simp [-List.length_flatMap, -List.map_take, eF, w1, w2, hne, hnx, hny, e3, w3]
theorem C_down {n d : Int} (hn : -200000000000 ≤ n ∧ n ≤ 200000000000) (hd : 1 ≤ d ∧ d ≤ 100000) : lim T (.call false i_rock_down [.int .i64 n, .int .i64 d] σ) = some (.val (.int .i64 (down n d)) σ) := by
  refine call_of T_rock_down e_rock_down rfl ?_
  have h1 := Int.mul_tdiv_add_tmod n d
  have h2 := Int.tmod_lt_of_pos n (show 0 < d by omega)
  have h3 := Int.lt_tmod_of_pos n (show 0 < d by omega)
  unfold down
  generalize hq : n.tdiv d = q at *
  generalize n.tmod d = r at *
  have h4 : d * q = q * d := Int.mul_comm _ _
  have hb : -200000100001 ≤ q ∧ q ≤ 200000100001 := by
    rcases Int.le_total 0 q with h | h
    · have := Int.mul_le_mul_of_nonneg_left hd.1 h; omega
    · have := Int.mul_le_mul_of_nonpos_left h hd.1; omega
  have w1 := w64 (n := q) (by omega)
  have w2 := w64 (n := q * d) (by omega)
  have w3 := w64 (n := q - 1) (by omega)
  have hne : ¬ d = 0 := by omega
  have key : n / d = if n < q * d then q - 1 else q := by
    split
    · rename_i hc
      refine ((Int.ediv_emod_unique (r := r + d) (show 0 < d by omega)).2 ⟨?_, ?_, ?_⟩).1
      · rw [Int.mul_sub]; omega
      · omega
      · omega
    · rename_i hc
      refine ((Int.ediv_emod_unique (r := r) (show 0 < d by omega)).2 ⟨?_, ?_, ?_⟩).1 <;> omega
  rw [key]
  by_cases hc : n < q * d <;> simp [-List.length_flatMap, -List.map_take, eF, hq, w1, w2, w3, hne, hc]

/-- A slice of the newest segment, written out, at any depth. -/
theorem k_out {α : Type} {f : α → List D} {w n : Nat} (hn : 1 < n) (hw : ∀ x, (f x).length = w) (hc : ∀ x, D.cleanL (f x) = true) {l : List α} {j v : Nat} {bs : List Abs.Blk} (hσ : σ ≠ []) (hj : bs[j]? = some (.cells v (l.flatMap f))) :
    frz (σ.length - 1) n (.sl σ.length j v 0 l.length w) (bs :: σ) = (.lst l.length (l.flatMap f), bs.set j .dead :: σ) := by
  have h3 : ¬ σ.length ≤ σ.length - 1 := by have := List.length_pos_iff.2 hσ; omega
  rw [frz_sl h3 (cs := l.flatMap f) (by simp [hj]) (by omega)]
  have h4 : 0 < n - 1 := by omega
  simp [k_self hw l, k_clean hc l, h4]

/-! ### The first state -/
theorem first_len {b : Bed} {m : Mdl} : (firstSt b m).length = b.n := by simp [firstSt]
theorem blk_len (l : List Rock.Blk) : (l.flatMap Blk.enc).length = l.length * 3 := flat_len (f := Blk.enc) (w := 3) (fun _ => rfl) l
theorem L_first {b : Bed} {m : Mdl} (h : Fv b m) : ∀ (n i v : Nat), i + n = b.n →
    WL T [1, 2, 6, 7] false f_rock_bedded_first_l6 [(1, .cref [.int .i64 b.f.x, .int .i64 b.f.y, .int .i64 b.f.z, .int .i64 b.f.k, .lst b.tab.length (b.tab.flatMap Rw.enc), .int .i64 b.stiff, .int .i64 b.lift, .int .i64 b.deep, .lst b.wells.length (b.wells.flatMap Bore.enc), .str m.name, .lst m.vals.length (m.vals.flatMap intE)]), (2, .sl σ.length 0 v 0 i 3), (6, .int .i64 b.n), (7, .int .i64 i)] ([.cells v (((firstSt b m).take i).flatMap Blk.enc)] :: σ)
      (fun x e σ' => x = .exit 0 ∧ get e 2 = .sl σ.length 0 (v + n) 0 (firstSt b m).length 3 ∧ σ' = [.cells (v + n) ((firstSt b m).flatMap Blk.enc)] :: σ)
  | 0, i, v, hi => by
    refine WL_step e_rock_bedded_first_l6 ?_
    obtain rfl : i = b.n := by omega
    have h3 : (firstSt b m).take b.n = firstSt b m := List.take_of_length_le (by simp [first_len])
    simp [-List.length_flatMap, -List.map_take, eF, h3, first_len]
  | n + 1, i, v, hi => by
    refine WL_step e_rock_bedded_first_l6 ?_
    have h1 : i < b.n := by omega
    have hn := h.bv.n
    have h4 := wnext h1 (by omega)
    have ho := fun σ => C_hold (σ := σ) h.toMv h1
    have hw := fun σ => C_warm (σ := σ) h.toMv h1
    have b1 := h.hold i h1
    have b2 := h.warm i h1
    have b3 := mul_n (by omega : 0 ≤ hold b m i) b1.2 b2.1 b2.2
    have w1 := w64 (n := hold b m i * warm b m i) (by omega)
    have ih := L_first h n (i + 1) (v + 1) (by omega)
    have hx : (firstSt b m)[i]? = some ⟨hold b m i, hold b m i * warm b m i, 0⟩ := by simp [firstSt, h1]
    have a3 := flat_snoc (f := Blk.enc) hx
    have a4 := blk_len ((firstSt b m).take i)
    rw [List.length_take, first_len, Nat.min_eq_left (by omega)] at a4
    have a6 : (((firstSt b m).take i).flatMap Blk.enc).take (i * 3) = ((firstSt b m).take i).flatMap Blk.enc := List.take_of_length_le (by omega)
    have h7 : (i + 1) * 24 ≤ room := by unfold room; omega
    simp [-List.length_flatMap, -List.map_take, eF, h1, h4, ho, hw, w1, a4, a6, h7, cl_rw, cl_bore, cl_int]
    refine WL.to ih (by simp [cl_rw, cl_bore, cl_int]) (by simp [← a3]) fun x e σ hh => by simpa [Nat.add_assoc, Nat.add_comm 1 n] using hh
theorem C_firstSt {b : Bed} {m : Mdl} (h : Fv b m) (hσ : σ ≠ []) : lim T (.call false i_rock_bedded_first [.agg [.int .i64 b.f.x, .int .i64 b.f.y, .int .i64 b.f.z, .int .i64 b.f.k, .lst b.tab.length (b.tab.flatMap Rw.enc), .int .i64 b.stiff, .int .i64 b.lift, .int .i64 b.deep, .lst b.wells.length (b.wells.flatMap Bore.enc), .str m.name, .lst m.vals.length (m.vals.flatMap intE)]] σ) = some (.val (stE (firstSt b m)) σ) := by
  refine call_of T_rock_bedded_first e_rock_bedded_first rfl ?_
  have hs := fun σ => C_rsize' (σ := σ) h.bv
  simp [-List.length_flatMap, -List.map_take, eF, hs, cl_rw, cl_bore, cl_int]
  refine WL.to (L_first (σ := σ) h b.n 0 0 (by omega)) (by simp) (by simp) ?_
  rintro x e σ' ⟨rfl, g2, rfl⟩
  simp [-List.length_flatMap, -List.map_take, eF, g2]
  rw [k_out (f := Blk.enc) (by decide) (fun _ => rfl) (fun x => by simp) hσ (by simp)]
  simp [stE]
end Go.Proofs.YtehandllpmlcoaaGreat

/-
  Pressures; what is valid of a state.
-/
set_option linter.unusedVariables false
set_option linter.unusedSimpArgs false
namespace Go.Proofs.YtehandllpmlcoaaGreat
open Go Go.Abs Go.Rock
variable {σ : Stack}

theorem Blk.ok_iff {x : Rock.Blk} : x.valid = true ↔ (1 ≤ x.m ∧ x.m ≤ 1000000) ∧ (0 ≤ x.h ∧ x.h ≤ 10000000000) ∧ (0 ≤ x.k ∧ x.k ≤ 1000000000000) := by
  simp [Rock.Blk.valid, inn]
/-- A state of the field. -/
structure Sv (b : Bed) (s : List Rock.Blk) : Prop where
  len : s.length = b.n
  ok : ∀ x ∈ s, x.valid = true
theorem Sv.of {b : Bed} {s : List Rock.Blk} (h : Bv b) : stateOk b s = true ↔ Sv b s := by
  have hs := h.sz; have hn := h.n
  unfold stateOk
  simp only [Bool.and_eq_true, decide_eq_true_eq]
  constructor
  · rintro ⟨h1, h2⟩
    exact ⟨by unfold Bed.size at h1; omega, allB_iff.1 h2⟩
  · rintro ⟨h1, h2⟩
    exact ⟨by unfold Bed.size; omega, allB_iff.2 h2⟩
theorem Sv.at {b : Bed} {s : List Rock.Blk} (h : Sv b s) {i : Nat} (hi : i < b.n) : s[i]? = some (blkAt s i) ∧ (1 ≤ (blkAt s i).m ∧ (blkAt s i).m ≤ 1000000) ∧ (0 ≤ (blkAt s i).h ∧ (blkAt s i).h ≤ 10000000000) ∧ (0 ≤ (blkAt s i).k ∧ (blkAt s i).k ≤ 1000000000000) := by
  have h1 : i < s.length := by have := h.len; omega
  have h2 : s[i]? = some (blkAt s i) := by simp [blkAt, h1]
  exact ⟨h2, Blk.ok_iff.1 (h.ok _ (List.mem_of_getElem? h2))⟩
theorem Sv.first {b : Bed} {m : Mdl} (h : Fv b m) : Sv b (firstSt b m) := by
  refine ⟨first_len, fun x hx => ?_⟩
  simp only [firstSt, List.mem_map, List.mem_range] at hx
  obtain ⟨i, hi, rfl⟩ := hx
  have b1 := h.hold i hi
  have b2 := h.warm i hi
  have b3 := mul_n (by omega : 0 ≤ hold b m i) b1.2 b2.1 b2.2
  exact Blk.ok_iff.2 ⟨⟨by simp only; omega, by simp only; omega⟩, ⟨b3.1, by simp only; omega⟩, by simp⟩

/-! ### Pressures -/
theorem row_ok {r : Rw} (h : r.alone = true) : (1 ≤ r.p ∧ r.p ≤ 10000) ∧ (0 ≤ r.l ∧ r.l ≤ 4000) := by
  simp only [Rw.alone, Bool.and_eq_true] at h
  exact ⟨inn_iff.1 h.2.1, inn_iff.1 h.2.2.1⟩
theorem L_press {s : List Rock.Blk} {i : Nat} {x : Rock.Blk} {t : List Rw} (hx : s[i]? = some x) (hm : 0 ≤ x.m ∧ x.m ≤ 1000000) (ht : ∀ r ∈ t, r.alone = true) (hl : t.length ≤ 1000) : ∀ (n j : Nat) (o : Int), j + n = t.length →
    WL T [1, 2, 7, 34, 35, 36] false f_rock_bedded_pressure_l8 [(1, .lst s.length (s.flatMap Blk.enc)), (2, .int .i64 i), (7, .int .i64 o), (34, .lst t.length (t.flatMap Rw.enc)), (35, .int .i64 t.length), (36, .int .i64 j)] σ
      (fun x' e σ' => σ' = σ ∧ x' = .exit 0 ∧ get e 7 = .int .i64 ((t.drop j).foldl (pressStep x) o))
  | 0, j, o, hj => by
    refine WL_step e_rock_bedded_pressure_l8 ?_
    have h1 : ¬ j < t.length := by omega
    have h2 : t.drop j = [] := List.drop_eq_nil_of_le (by omega)
    simp [-List.length_flatMap, -List.map_take, eF, h1, h2]
  | n + 1, j, o, hj => by
    refine WL_step e_rock_bedded_pressure_l8 ?_
    have h1 : j < t.length := by omega
    obtain ⟨r, hr⟩ : ∃ r, t[j]? = some r := ⟨_, List.getElem?_eq_getElem h1⟩
    have hrb := row_ok (ht r (List.mem_of_getElem? hr))
    have h2 := flat_at (f := Rw.enc) (w := 5) (fun _ => rfl) hr
    have h3 := flat_at (f := Blk.enc) (w := 3) (fun _ => rfl) hx
    have h4 := wnext h1 (by omega)
    have h5 := drop_at hr
    have hi : i < s.length := (List.getElem?_eq_some_iff.1 hx).1
    have b1 := mul_n hrb.2.1 hrb.2.2 hm.1 hm.2
    have w1 := w64 (n := r.l * x.m) (by omega)
    have ih := L_press hx hm ht hl n (j + 1) (pressStep x o r) (by omega)
    rw [h5]
    simp only [List.foldl_cons]
    by_cases hc : r.l * x.m ≤ x.h
    · have hm2 : (if o < r.p then r.p else o) = pressStep x o r := by unfold pressStep; rw [if_pos hc]; omega
      simp [-List.length_flatMap, -List.map_take, eF, h1, h2, h3, h4, hi, w1, hc]
      refine WL.to ih (by simp [pressStep, hc]) rfl fun x e σ hh => hh
    · simp [-List.length_flatMap, -List.map_take, eF, h1, h2, h3, h4, hi, w1, hc]
      refine WL.to ih (by simp [pressStep, hc]) rfl fun x e σ hh => hh
theorem C_pressure {b : Bed} {m : Mdl} {s : List Rock.Blk} (h : Fv b m) (hs : Sv b s) {i : Nat} (hi : i < b.n) :
    lim T (.call false i_rock_bedded_pressure [.agg [.int .i64 b.f.x, .int .i64 b.f.y, .int .i64 b.f.z, .int .i64 b.f.k, .lst b.tab.length (b.tab.flatMap Rw.enc), .int .i64 b.stiff, .int .i64 b.lift, .int .i64 b.deep, .lst b.wells.length (b.wells.flatMap Bore.enc), .str m.name, .lst m.vals.length (m.vals.flatMap intE)], .lst s.length (s.flatMap Blk.enc), .int .i64 i] σ) = some (.val (.int .i64 (pressure b m s i)) σ) := by
  refine call_of T_rock_bedded_pressure e_rock_bedded_pressure rfl ?_
  have hw := fun σ => C_weight (σ := σ) (m := m) h.bv hi
  have ho := fun σ => C_hold (σ := σ) h.toMv hi
  have b1 := h.hold i hi
  obtain ⟨hx, b2, b3, b4⟩ := hs.at hi
  have hil : i < s.length := by have := hs.len; omega
  have hst := h.bv.stiff
  have b5 := weight_b h.bv hi
  have b6 : -100000000000 ≤ b.stiff * ((blkAt s i).m - hold b m i) ∧ b.stiff * ((blkAt s i).m - hold b m i) ≤ 100000000000 := by
    rcases Int.le_total (hold b m i) (blkAt s i).m with hh | hh
    · have := mul_n (a := b.stiff) (b := (blkAt s i).m - hold b m i) (A := 100000) (B := 1000000) (by omega) hst.2 (by omega) (by omega); omega
    · have := mul_n (a := b.stiff) (b := hold b m i - (blkAt s i).m) (A := 100000) (B := 1000000) (by omega) hst.2 (by omega) (by omega)
      have e : b.stiff * ((blkAt s i).m - hold b m i) = - (b.stiff * (hold b m i - (blkAt s i).m)) := by rw [← Int.mul_neg]; congr 1; omega
      omega
  have hd := fun σ => C_down (σ := σ) (n := b.stiff * ((blkAt s i).m - hold b m i)) (d := hold b m i) (by omega) (by omega)
  have b7 : -100000000000 ≤ down (b.stiff * ((blkAt s i).m - hold b m i)) (hold b m i) ∧ down (b.stiff * ((blkAt s i).m - hold b m i)) (hold b m i) ≤ 100000000000 := by
    unfold down
    constructor
    · rw [Int.le_ediv_iff_mul_le (by omega)]; omega
    · have := Int.ediv_le_self (b := hold b m i) (a := b.stiff * ((blkAt s i).m - hold b m i))
      rcases Int.le_total 0 (b.stiff * ((blkAt s i).m - hold b m i)) with hh | hh
      · have := this hh; omega
      · have := Int.ediv_le_of_le_mul (b := 0) (show 0 < hold b m i by omega) (by omega : b.stiff * ((blkAt s i).m - hold b m i) ≤ 0 * hold b m i); omega
  have w1 := w64 (n := (blkAt s i).m - hold b m i) (by omega)
  have w2 := w64 (n := b.stiff * ((blkAt s i).m - hold b m i)) (by omega)
  have w3 := w64 (n := weight b i + down (b.stiff * ((blkAt s i).m - hold b m i)) (hold b m i)) (by omega)
  have h3 := flat_at (f := Blk.enc) (w := 3) (fun _ => rfl) hx
  have htab := h.bv.tab
  simp only [tabOk, Bool.and_eq_true] at htab
  have ht := inn_iff.1 htab.1
  simp [-List.length_flatMap, -List.map_take, eF, hw, ho, hil, h3, w1, w2, hd, w3]
  refine WL.to (L_press (σ := [] :: σ) hx ⟨by omega, by omega⟩ (allB_iff.1 htab.2.1) (by omega) b.tab.length 0 (max 0 (weight b i + down (b.stiff * ((blkAt s i).m - hold b m i)) (hold b m i))) (by omega)) (by simp) rfl ?_
  rintro x e σ' ⟨rfl, rfl, g⟩
  simp [-List.length_flatMap, -List.map_take, eF, g, pressure]

/-! ### All pressures -/
theorem pr_len {b : Bed} {m : Mdl} {s : List Rock.Blk} : (pressures b m s).length = s.length := by simp [pressures]
theorem int_len (l : List Int) : (l.flatMap intE).length = l.length := by
  have := flat_len (f := intE) (w := 1) (fun _ => rfl) l
  omega
theorem L_pressures {b : Bed} {m : Mdl} {s : List Rock.Blk} (h : Fv b m) (hs : Sv b s) : ∀ (n i v : Nat), i + n = s.length →
    WL T [1, 2, 4, 7, 8] false f_rock_bedded_pressures_l6 [(1, .lst s.length (s.flatMap Blk.enc)), (2, .cref [.int .i64 b.f.x, .int .i64 b.f.y, .int .i64 b.f.z, .int .i64 b.f.k, .lst b.tab.length (b.tab.flatMap Rw.enc), .int .i64 b.stiff, .int .i64 b.lift, .int .i64 b.deep, .lst b.wells.length (b.wells.flatMap Bore.enc), .str m.name, .lst m.vals.length (m.vals.flatMap intE)]), (4, .sl σ.length 0 v 0 i 1), (7, .int .i64 s.length), (8, .int .i64 i)] ([.cells v (((pressures b m s).take i).flatMap intE)] :: σ)
      (fun x e σ' => x = .exit 0 ∧ get e 4 = .sl σ.length 0 (v + n) 0 (pressures b m s).length 1 ∧ σ' = [.cells (v + n) ((pressures b m s).flatMap intE)] :: σ)
  | 0, i, v, hi => by
    refine WL_step e_rock_bedded_pressures_l6 ?_
    have h1 : ¬ i < s.length := by omega
    have h3 : (pressures b m s).take i = pressures b m s := List.take_of_length_le (by rw [pr_len]; omega)
    simp [-List.length_flatMap, -List.map_take, eF, h1, h3, pr_len]
    omega
  | n + 1, i, v, hi => by
    refine WL_step e_rock_bedded_pressures_l6 ?_
    have h1 : i < s.length := by omega
    have hn := h.bv.n; have hl := hs.len
    have h4 := wnext h1 (by omega)
    have hp := fun σ => C_pressure (σ := σ) h hs (i := i) (by omega)
    have ih := L_pressures h hs n (i + 1) (v + 1) (by omega)
    have hx : (pressures b m s)[i]? = some (pressure b m s i) := by simp [pressures, h1]
    have a3 := flat_snoc (f := intE) hx
    have a4 := int_len ((pressures b m s).take i)
    rw [List.length_take, pr_len, Nat.min_eq_left (by omega)] at a4
    have a6 : (((pressures b m s).take i).flatMap intE).take i = ((pressures b m s).take i).flatMap intE := List.take_of_length_le (by omega)
    have h7 : (i + 1) * 8 ≤ room := by unfold room; omega
    simp [-List.length_flatMap, -List.map_take, eF, h1, h4, hp, a4, a6, h7, cl_rw, cl_bore, cl_int]
    refine WL.to ih (by simp [cl_rw, cl_bore, cl_int]) (by simp [← a3]) fun x e σ hh => by simpa [Nat.add_assoc, Nat.add_comm 1 n] using hh
theorem C_pressures {b : Bed} {m : Mdl} {s : List Rock.Blk} (h : Fv b m) (hs : Sv b s) (hσ : σ ≠ []) : lim T (.call false i_rock_bedded_pressures [.agg [.int .i64 b.f.x, .int .i64 b.f.y, .int .i64 b.f.z, .int .i64 b.f.k, .lst b.tab.length (b.tab.flatMap Rw.enc), .int .i64 b.stiff, .int .i64 b.lift, .int .i64 b.deep, .lst b.wells.length (b.wells.flatMap Bore.enc), .str m.name, .lst m.vals.length (m.vals.flatMap intE)], .lst s.length (s.flatMap Blk.enc)] σ) = some (.val (.lst (pressures b m s).length ((pressures b m s).flatMap intE)) σ) := by
  refine call_of T_rock_bedded_pressures e_rock_bedded_pressures rfl ?_
  simp [-List.length_flatMap, -List.map_take, eF, cl_rw, cl_bore, cl_int]
  refine WL.to (L_pressures (σ := σ) h hs s.length 0 0 (by omega)) (by simp) (by simp) ?_
  rintro x e σ' ⟨rfl, g4, rfl⟩
  simp [-List.length_flatMap, -List.map_take, eF, g4]
  rw [k_out (f := intE) (by decide) (fun _ => rfl) (fun x => by simp) hσ (by simp)]
  simp
end Go.Proofs.YtehandllpmlcoaaGreat

/-
  What is valid of a state; what is moved; copies of states.
-/
set_option linter.unusedVariables false
set_option linter.unusedSimpArgs false
namespace Go.Proofs.YtehandllpmlcoaaGreat
open Go Go.Abs Go.Rock
variable {σ : Stack}

theorem C_blkValid {x : Rock.Blk} : lim T (.call false i_rock_Block_valid [.agg x.enc] σ) = some (.val (.bool x.valid) σ) := by
  refine call_of T_rock_Block_valid e_rock_Block_valid rfl ?_
  cases hc1 : inn x.m 1 1000000
  · simp [-List.length_flatMap, -List.map_take, eF, C_rwithin, Rock.Blk.valid, hc1]
  cases hc2 : inn x.h 0 10000000000
  · simp [-List.length_flatMap, -List.map_take, eF, C_rwithin, Rock.Blk.valid, hc1, hc2]
  cases hc3 : inn x.k 0 1000000000000
  · simp [-List.length_flatMap, -List.map_take, eF, C_rwithin, Rock.Blk.valid, hc1, hc2, hc3]
  simp [-List.length_flatMap, -List.map_take, eF, C_rwithin, Rock.Blk.valid, hc1, hc2, hc3]
theorem C_blkAll {l : List Rock.Blk} (hl : l.length ≤ 1000000000) : lim T (.call false i_rock_all_rock_Block [.lst l.length (l.flatMap Blk.enc), .fn i_rock_Block_valid [] []] σ) = some (.val (.bool (allB l Rock.Blk.valid)) σ) :=
  all_of (eltAgg 3 Blk.enc (fun _ => rfl)) (f := i_rock_all_rock_Block) (g := i_rock_all_rock_Block_1) (h := i_slices_ContainsFunc_rock_Block) (i := i_slices_IndexFunc_rock_Block) (l := l) (p := Rock.Blk.valid) rfl rfl rfl rfl (by omega) (Tests.fn fun x _ σ => C_blkValid) rfl
theorem C_state {b : Bed} {m : Mdl} {s : List Rock.Blk} (h : Bv b) (hl : s.length ≤ 1000000000) : lim T (.call false i_rock_bedded_state [.agg [.int .i64 b.f.x, .int .i64 b.f.y, .int .i64 b.f.z, .int .i64 b.f.k, .lst b.tab.length (b.tab.flatMap Rw.enc), .int .i64 b.stiff, .int .i64 b.lift, .int .i64 b.deep, .lst b.wells.length (b.wells.flatMap Bore.enc), .str m.name, .lst m.vals.length (m.vals.flatMap intE)], .lst s.length (s.flatMap Blk.enc)] σ) = some (.val (.bool (stateOk b s)) σ) := by
  refine call_of T_rock_bedded_state e_rock_bedded_state rfl ?_
  have hs := fun σ => C_rsize' (σ := σ) h
  have ha := fun σ => C_blkAll (σ := σ) (l := s) hl
  have hz := h.sz
  unfold stateOk
  by_cases hc1 : s.length = b.n
  · have hc2 : (s.length : Int) = b.size := by unfold Bed.size; omega
    have ha' := ha
    rw [hc1] at ha'
    have hc3 : ((b.n : Nat) : Int) = b.size := hz.symm
    cases hc : allB s Rock.Blk.valid <;> simp [-List.length_flatMap, -List.map_take, eF, hs, hc1, ha', hc, hc3]
  · have hc2 : ¬ (s.length : Int) = b.size := by unfold Bed.size; omega
    simp [-List.length_flatMap, -List.map_take, eF, hs, hc1, hc2, show ¬ (s.length : Int) = (b.n : Int) by omega]
theorem out_b {x q m A : Int} (hm : 1 ≤ m) (hx : 0 ≤ x ∧ x ≤ A) (hq : 0 ≤ q ∧ q ≤ m) : 0 ≤ (x * q).tdiv m ∧ (x * q).tdiv m ≤ A := by
  have h1 := Int.mul_nonneg hx.1 hq.1
  rw [Int.tdiv_eq_ediv_of_nonneg h1]
  refine ⟨Int.ediv_nonneg h1 (by omega), Int.ediv_le_of_le_mul (by omega) ?_⟩
  exact Int.mul_le_mul hx.2 hq.2 hq.1 (by omega)
theorem C_out {x : Rock.Blk} {q : Int} (hm : 1 ≤ x.m ∧ x.m ≤ 1000000) (hh : 0 ≤ x.h ∧ x.h ≤ 10000000000) (hk : 0 ≤ x.k ∧ x.k ≤ 1000000000000) (hq : 0 ≤ q ∧ q ≤ x.m) :
    lim T (.call false i_rock_Block_out [.agg x.enc, .int .i64 q] σ) = some (.val (.agg (x.out q).enc) σ) := by
  refine call_of T_rock_Block_out e_rock_Block_out rfl ?_
  have b1 := mul_n hh.1 hh.2 hq.1 (show q ≤ 1000000 by omega)
  have b2 := mul_n hk.1 hk.2 hq.1 (show q ≤ 1000000 by omega)
  have b3 := out_b hm.1 hh hq
  have b4 := out_b hm.1 hk hq
  have w1 := w64 (n := x.h * q) (by omega)
  have w2 := w64 (n := x.k * q) (by omega)
  have w3 := w64 (n := (x.h * q).tdiv x.m) (by omega)
  have w4 := w64 (n := (x.k * q).tdiv x.m) (by omega)
  have hne : ¬ x.m = 0 := by omega
  simp [-List.length_flatMap, -List.map_take, eF, w1, w2, w3, w4, hne, Rock.Blk.out]
/-- A block's numbers are small. -/
def sm (x : Rock.Blk) (n : Int) : Prop := (-n ≤ x.m ∧ x.m ≤ n) ∧ (-n ≤ x.h ∧ x.h ≤ n) ∧ (-n ≤ x.k ∧ x.k ≤ n)
theorem C_move {F : List Abs.Blk} {j v i : Nat} {s : List Rock.Blk} {x o : Rock.Blk} {sign : Int} (hF : F[j]? = some (.cells v (s.flatMap Blk.enc))) (hx : s[i]? = some x) (h1 : sm x 1000000000000000000) (h2 : sm o 1000000000000000000) (hs : sign = 1 ∨ sign = -1) :
    lim T (.call false i_rock_Block_move [.ref σ.length j v (i * 3), .agg o.enc, .int .i64 sign] (F :: σ)) = some (.val (.tup []) (F.set j (.cells v ((moveAt s i o sign).flatMap Blk.enc)) :: σ)) := by
  refine call_to T_rock_Block_move e_rock_Block_move rfl (by simp) ?_
  obtain ⟨a1, a2, a3⟩ := h1
  obtain ⟨c1, c2, c3⟩ := h2
  have hi : i < s.length := (List.getElem?_eq_some_iff.1 hx).1
  obtain ⟨A, B, hA, hAB⟩ : ∃ A B : List D, A.length = i * 3 ∧ s.flatMap Blk.enc = A ++ (x.enc ++ B) := by
    have hd := k_drop (f := Blk.enc) (w := 3) (fun _ => rfl) hx
    have hlen := blk_len s
    refine ⟨(s.flatMap Blk.enc).take (i * 3), (s.flatMap Blk.enc).drop (i * 3 + 3), by rw [List.length_take]; omega, ?_⟩
    rw [← hd, List.take_append_drop]
  have hset : (moveAt s i o sign).flatMap Blk.enc = A ++ ((x.move o sign).enc ++ B) := by
    have h3 := k_set (f := Blk.enc) (w := 3) (fun _ => rfl) (x := x.move o sign) hi
    have hblk : blkAt s i = x := by simp [blkAt, hx]
    rw [moveAt, hblk, ← h3, hAB]
    have e1 : (A ++ (x.enc ++ B)).take (i * 3) = A := by rw [← hA]; simp
    have e2 : (A ++ (x.enc ++ B)).drop (i * 3 + 3) = B := by
      rw [← List.drop_drop, ← hA]; simp
    rw [e1, e2]
  rw [hAB] at hF
  rw [hset]
  have hj : j < F.length := (List.getElem?_eq_some_iff.1 hF).1
  have gs : ∀ X : Abs.Blk, (F.set j X)[j]? = some X := fun X => by simp [hj]
  clear hset hAB hx hj
  have t1 : ∀ L : List D, (A ++ L).take (A.length + 1) = A ++ L.take 1 := fun L => by rw [List.take_length_add_append]
  have t2 : ∀ L : List D, (A ++ L).take (A.length + 1 + 1) = A ++ L.take 2 := fun L => by rw [Nat.add_assoc, List.take_length_add_append]
  have d2 : ∀ L : List D, (A ++ L).drop (A.length + 1 + 1) = L.drop 2 := fun L => by rw [Nat.add_assoc, List.drop_length_add_append]
  have d1 : ∀ L : List D, (A ++ L).drop (A.length + 1) = L.drop 1 := fun L => by rw [List.drop_length_add_append]
  have d3 : ∀ L : List D, (A ++ L).drop (A.length + 1 + 1 + 1) = L.drop 3 := fun L => by rw [Nat.add_assoc, Nat.add_assoc, List.drop_length_add_append]
  have k1 : A.length + 1 + 1 ≤ A.length + (B.length + 1 + 1 + 1) := by omega
  have k2 : A.length + 1 + 1 + 1 ≤ A.length + (B.length + 1 + 1 + 1) := by omega
  have k3 : A.length + 1 ≤ A.length + (B.length + 1 + 1 + 1) := by omega
  have k4 : A.length + 2 + 1 ≤ A.length + (B.length + 1 + 1 + 1) := by omega
  have d4 : ∀ L : List D, (A ++ L).drop (A.length + 2) = L.drop 2 := fun L => by rw [List.drop_length_add_append]
  have d5 : ∀ L : List D, (A ++ L).drop (A.length + 2 + 1) = L.drop 3 := fun L => by rw [Nat.add_assoc, List.drop_length_add_append]
  have t4 : ∀ L : List D, (A ++ L).take (A.length + 2) = A ++ L.take 2 := fun L => by rw [List.take_length_add_append]
  have y1 := w64 (n := o.m) (by omega)
  have y2 := w64 (n := o.h) (by omega)
  have y3 := w64 (n := o.k) (by omega)
  have y4 := w64 (n := -o.m) (by omega)
  have y5 := w64 (n := -o.h) (by omega)
  have y6 := w64 (n := -o.k) (by omega)
  rcases hs with rfl | rfl
  · have w1 := w64 (n := x.m + o.m) (by omega)
    have w2 := w64 (n := x.h + o.h) (by omega)
    have w3 := w64 (n := x.k + o.k) (by omega)
    simp [-List.length_flatMap, -List.map_take, eF, hF, gs, ← hA, w1, w2, w3, y1, y2, y3, t1, t2, t4, d1, d2, d3, d4, d5, k1, k2, k3, k4, Rock.Blk.move]
  · have w1 := w64 (n := x.m + -o.m) (by omega)
    have w2 := w64 (n := x.h + -o.h) (by omega)
    have w3 := w64 (n := x.k + -o.k) (by omega)
    simp [-List.length_flatMap, -List.map_take, eF, hF, gs, ← hA, w1, w2, w3, y4, y5, y6, t1, t2, t4, d1, d2, d3, d4, d5, k1, k2, k3, k4, Rock.Blk.move]
theorem C_given {w : Bore} {r : Int} (hr : -100000 ≤ r ∧ r ≤ 100000) (h1 : 0 ≤ w.h ∧ w.h ≤ 3000) (h2 : 0 ≤ w.m ∧ w.m ≤ 1000000) :
    lim T (.call false i_rock_Bore_given [.agg w.enc, .int .i64 r] σ) = some (.val (.agg (w.given r).enc) σ) := by
  refine call_of T_rock_Bore_given e_rock_Bore_given rfl ?_
  have b1 : -300000000 ≤ r * w.h ∧ r * w.h ≤ 300000000 := by
    rcases Int.le_total 0 r with h | h
    · have := mul_n h hr.2 h1.1 h1.2; omega
    · have := mul_n (a := -r) (A := 100000) (by omega) (by omega) h1.1 h1.2
      rw [Int.neg_mul] at this; omega
  have b2 : -100000000000 ≤ r * w.m ∧ r * w.m ≤ 100000000000 := by
    rcases Int.le_total 0 r with h | h
    · have := mul_n h hr.2 h2.1 h2.2; omega
    · have := mul_n (a := -r) (A := 100000) (by omega) (by omega) h2.1 h2.2
      rw [Int.neg_mul] at this; omega
  have w1 := w64 (n := -r) (by omega)
  have w2 := w64 (n := -(r * w.h)) (by omega)
  have w3 := w64 (n := -(r * w.m)) (by omega)
  simp [-List.length_flatMap, -List.map_take, eF, w1, w2, w3, Bore.given, Int.neg_mul]
theorem C_fed {b : Bed} {m : Mdl} (h : Fv b m) {i : Nat} (hi : i < b.n) : lim T (.call false i_rock_bedded_fed [.agg [.int .i64 b.f.x, .int .i64 b.f.y, .int .i64 b.f.z, .int .i64 b.f.k, .lst b.tab.length (b.tab.flatMap Rw.enc), .int .i64 b.stiff, .int .i64 b.lift, .int .i64 b.deep, .lst b.wells.length (b.wells.flatMap Bore.enc), .str m.name, .lst m.vals.length (m.vals.flatMap intE)], .int .i64 i] σ) = some (.val (.agg (fed b m i).enc) σ) := by
  refine call_of T_rock_bedded_fed e_rock_bedded_fed rfl ?_
  have hf := fun σ => C_feed (σ := σ) h.toMv hi
  have b1 := h.feed i hi
  have b2 := h.bv.deep
  have b3 := mul_n b1.1 b1.2 b2.1 b2.2
  have w1 := w64 (n := feed b m i * b.deep) (by omega)
  simp [-List.length_flatMap, -List.map_take, eF, hf, w1, fed]
/-- A copy of a state, kept in its caller's segment. -/
theorem C_clone {s : List Rock.Blk} {bs : List Abs.Blk} (hl : s.length ≤ 1000000) (hne : s ≠ []) : lim T (.call true i_slices_Clone_rock_State_rock_Block [.lst s.length (s.flatMap Blk.enc)] (bs :: σ)) =
    some (.val (.sl σ.length (bs.length + 1) 1 0 s.length 3) ((bs ++ [.cells 0 [], .cells 1 (s.flatMap Blk.enc)]) :: σ)) := by
  refine call_kp T_slices_Clone_rock_State_rock_Block e_slices_Clone_rock_State_rock_Block rfl ?_
  have h7 : s.length * 24 ≤ room := by unfold room; omega
  simp [-List.length_flatMap, -List.map_take, eF, hne, blk_len, h7]
end Go.Proofs.YtehandllpmlcoaaGreat
