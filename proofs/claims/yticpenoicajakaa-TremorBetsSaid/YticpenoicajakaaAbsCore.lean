/-
  The abstract interpreter: a small instruction set with values as plain data; what a call answers is a Lean function of it. No model of memory but a stack of segments of blocks. Mine, for every seat.
-/
import GoSem.Core.View
namespace Go.Abs

/-- Values as data. 'lst', 'cref': what nobody writes any more (its cells written out). 'ref', 'sl': into a block of the store (level, index, version, offset).
'own': the address of a variable of the frame's own, with what it holds (and a stamp); 'vr': an address inside one (its temporary, its stamp, the place). -/
inductive D where
  | undef
  | bool (b : Bool)
  | int (k : IntKind) (n : Int)
  | str (s : List UInt8)
  | agg (cs : List D)
  | tup (cs : List D)
  | nilp
  | ref (l i v off : Nat)
  | cref (cs : List D)
  | nils
  | lst (n : Nat) (cs : List D)
  | sl (l i v off n w : Nat)
  | fn (f : Nat) (first cap : List D)
  | nilf
  | yld (l i : Nat)
  | own (s : Nat) (cs : List D)
  | vr (x s off : Nat)
  deriving Inhabited

mutual
/-- Are two values surely the same? -/
def D.same : D → D → Bool
  | .undef, .undef => true
  | .bool a, .bool b => a == b
  | .int k n, .int k' n' => k == k' && n == n'
  | .str a, .str b => a == b
  | .agg a, .agg b => D.sameL a b
  | .tup a, .tup b => D.sameL a b
  | .nilp, .nilp => true
  | .ref a b c d, .ref a' b' c' d' => a == a' && b == b' && c == c' && d == d'
  | .cref a, .cref b => D.sameL a b
  | .nils, .nils => true
  | .lst n a, .lst m b => n == m && D.sameL a b
  | .sl a b c d e f, .sl a' b' c' d' e' f' => a == a' && b == b' && c == c' && d == d' && e == e' && f == f'
  | .fn f a b, .fn f' a' b' => f == f' && D.sameL a a' && D.sameL b b'
  | .nilf, .nilf => true
  | .yld a b, .yld a' b' => a == a' && b == b'
  | .own s a, .own s' b => s == s' && D.sameL a b
  | .vr a b c, .vr a' b' c' => a == a' && b == b' && c == c'
  | _, _ => false
def D.sameL : List D → List D → Bool
  | [], [] => true
  | a :: as, b :: bs => D.same a b && D.sameL as bs
  | _, _ => false
end

mutual
theorem same_eq : ∀ {a b : D}, D.same a b = true → a = b
  | .undef, b, h => by cases b <;> simp [D.same] at h; rfl
  | .bool _, b, h => by cases b <;> simp [D.same] at h; rw [h]
  | .int _ _, b, h => by cases b <;> simp [D.same] at h; rw [h.1, h.2]
  | .str _, b, h => by cases b <;> simp [D.same] at h; rw [h]
  | .agg _, b, h => by cases b <;> simp [D.same] at h; rw [sameL_eq h]
  | .tup _, b, h => by cases b <;> simp [D.same] at h; rw [sameL_eq h]
  | .nilp, b, h => by cases b <;> simp [D.same] at h; rfl
  | .ref .., b, h => by cases b <;> simp [D.same] at h; simp [h]
  | .cref _, b, h => by cases b <;> simp [D.same] at h; rw [sameL_eq h]
  | .nils, b, h => by cases b <;> simp [D.same] at h; rfl
  | .lst .., b, h => by cases b <;> simp [D.same] at h; rw [h.1, sameL_eq h.2]
  | .sl .., b, h => by cases b <;> simp [D.same] at h; simp [h]
  | .fn .., b, h => by cases b <;> simp [D.same] at h; rw [h.1.1, sameL_eq h.1.2, sameL_eq h.2]
  | .nilf, b, h => by cases b <;> simp [D.same] at h; rfl
  | .yld .., b, h => by cases b <;> simp [D.same] at h; simp [h]
  | .own .., b, h => by cases b <;> simp [D.same] at h; rw [h.1, sameL_eq h.2]
  | .vr .., b, h => by cases b <;> simp [D.same] at h; simp [h]
theorem sameL_eq : ∀ {a b : List D}, D.sameL a b = true → a = b
  | [], [], _ => rfl
  | [], _ :: _, h => by simp [D.sameL] at h
  | _ :: _, [], h => by simp [D.sameL] at h
  | a :: as, b :: bs, h => by
    simp only [D.sameL, Bool.and_eq_true] at h
    rw [same_eq h.1, sameL_eq h.2]
end

mutual
theorem same_refl : ∀ (a : D), D.same a a = true
  | .undef => rfl
  | .bool b => by simp [D.same]
  | .int k n => by simp [D.same]
  | .str s => by simp [D.same]
  | .agg a => by simp [D.same, sameL_refl a]
  | .tup a => by simp [D.same, sameL_refl a]
  | .nilp => rfl
  | .ref .. => by simp [D.same]
  | .cref a => by simp [D.same, sameL_refl a]
  | .nils => rfl
  | .lst n a => by simp [D.same, sameL_refl a]
  | .sl .. => by simp [D.same]
  | .fn f a b => by simp [D.same, sameL_refl a, sameL_refl b]
  | .nilf => rfl
  | .yld .. => by simp [D.same]
  | .own s a => by simp [D.same, sameL_refl a]
  | .vr .. => by simp [D.same]
theorem sameL_refl : ∀ (a : List D), D.sameL a a = true
  | [] => rfl
  | a :: as => by simp [D.sameL, same_refl a, sameL_refl as]
end

instance : DecidableEq D := fun a b => if h : D.same a b = true then isTrue (same_eq h) else isFalse fun e => h (e ▸ same_refl a)

inductive Opd where
  | t (n : Nat)
  | c (d : D)
  deriving Inhabited, DecidableEq

/-- What an operation does. -/
inductive K where
  | mv (x : Opd)
  | nilb (w : Nat)
  | pick (c a b : Opd)
  | alc (nb : List (Nat × Nat)) (cs : List D)
  | alcv (nb : List (Nat × Nat)) (cs : List D)
  | boxi (x : Opd)
  | boxm (x : Opd)
  | boxv (x : Opd)
  | bld (zero : List D) (parts : List (Nat × Nat × Opd))
  | bsi (n w : Nat) (zero : List D) (parts : List (Nat × Nat × Opd))
  | bsm (n w : Nat) (zero : List D) (parts : List (Nat × Nat × Opd))
  | ld (ag : Bool) (sz : Nat) (a : Opd)
  | st (nb : List (Nat × Nat)) (sz : Nat) (a x : Opd)
  | ldv (v : Nat) (ag : Bool) (sz : Nat) (a : Nat)
  | stv (v : Nat) (nb : List (Nat × Nat)) (sz : Nat) (a : Nat) (x : Opd)
  | bin (o : BinOp) (x y : Opd)
  | eqv (ag : Bool) (ks : List (Option IntKind)) (neg : Bool) (x y : Opd)
  | un (o : UnOp) (x : Opd)
  | cvt (k : IntKind) (x : Opd)
  | mkf (f : Nat) (first cap : List Opd)
  | mks (w bytes : Nat) (zero : List D) (l c : Opd)
  | slc (w : Nat) (x : Opd) (lo hi mx : Option Opd)
  | slca (len w : Nat) (x : Opd) (lo hi : Option Opd)
  | fadr (off : Nat) (x : Opd)
  | fld (ag : Bool) (off sz : Nat) (x : Opd)
  | idxA (len w : Nat) (x i : Opd)
  | idxS (w : Nat) (x i : Opd)
  | idxV (ag : Bool) (len w : Nat) (x i : Opd)
  | lenS (x : Opd)
  | lenC (n : Nat)
  | mn (x y : Opd)
  | mx (x y : Opd)
  | app (w bytes : Nat) (s x : Opd)
  | cpi (w bytes : Nat) (x : Opd)
  | ext (x : Opd) (i : Nat)
  | call (kp : Bool) (f : Opd) (args : List Opd)
  deriving Inhabited, DecidableEq

/-- An operation: where its value goes; its guard (a temporary, the wanted value); in a region that draws: must a call leave the store as it was? -/
structure Op where
  dst : Option Nat
  grd : Option (Nat × Bool)
  ntr : Bool
  k : K
  deriving Inhabited, DecidableEq

inductive Cmd where
  | nop
  | reg (live : List Nat) (ops : List Op)
  | seq (a b : Cmd)
  | ite (c : Opd) (a b : Cmd)
  | blk (id : Nat) (a : Cmd)
  | loop (live : List Nat) (seg : Bool) (a : Cmd)
  | rngf (live : List Nat) (f : Opd) (params : List Nat) (asg body : Cmd)
  | exit (id : Nat)
  | ret
  deriving Inhabited, DecidableEq

inductive Exit where
  | normal
  | exit (id : Nat)
  | ret
  deriving Inhabited, DecidableEq

abbrev Env := List (Nat × D)

def get : Env → Nat → D
  | [], _ => .undef
  | (k, v) :: r, t => if k = t then v else get r t

def put (d : Option Nat) (v : D) (e : Env) : Env :=
  match d with
  | some t => (t, v) :: e
  | none => e

/-- Behind a region: addresses inside a variable are forgotten, stamps begin anew. -/
def D.calm : D → D
  | .vr .. => .undef
  | .own _ cs => .own 0 cs
  | d => d

/-- A value that may leave its frame. -/
def D.strip : D → D
  | .vr .. => .undef
  | .own .. => .undef
  | d => d

def restrict (live : List Nat) (e : Env) : Env := live.map fun t => (t, (get e t).calm)

def keys (e : Env) : List Nat := (e.map (·.1)).eraseDups

def strips (live : List Nat) (e : Env) : Env := live.map fun t => (t, (get e t).strip)

def liveAt (live : List Nat) (x : Exit) (e : Env) : List Nat :=
  match x with
  | .normal => live
  | _ => keys e

structure LoopSt where
  state : Nat
  pend : Option Exit
  env : Env
  params : List Nat
  asg : Cmd
  body : Cmd
  deriving DecidableEq

inductive Blk where
  | cells (v : Nat) (cs : List D)
  | dead
  | loop (l : LoopSt)
  deriving DecidableEq

/-- The store: a stack of segments, the newest first. The level of a segment: how many lie below it. -/
abbrev Stack := List (List Blk)

def seg? : Stack → Nat → Option (List Blk)
  | [], _ => none
  | s :: σ, l => if σ.length = l then some s else seg? σ l

def setSeg : Stack → Nat → List Blk → Stack
  | [], _, _ => []
  | s :: σ, l, s' => if σ.length = l then s' :: σ else s :: setSeg σ l s'

def blk? (σ : Stack) (l i : Nat) : Option Blk := (seg? σ l).bind (·[i]?)

def setBlk (σ : Stack) (l i : Nat) (b : Blk) : Stack :=
  match seg? σ l with
  | some s => setSeg σ l (s.set i b)
  | none => σ

/-- The cells of a block, at a version. -/
def cells? (σ : Stack) (l i v : Nat) : Option (List D) :=
  match blk? σ l i with
  | some (.cells v' cs) => if v' = v then some cs else none
  | _ => none

/-- A new block in the newest segment: its level and index, and the store behind it. -/
def newBlk (σ : Stack) (b : Blk) : Option (Nat × Nat × Stack) :=
  match σ with
  | [] => none
  | s :: σ' => some (σ'.length, s.length, (s ++ [b]) :: σ')

mutual
/-- Does a value lead nowhere into the store? -/
def D.clean : D → Bool
  | .ref .. => false
  | .sl .. => false
  | .yld .. => false
  | .vr .. => true
  | .own _ cs => D.cleanL cs
  | .agg cs => D.cleanL cs
  | .tup cs => D.cleanL cs
  | .cref cs => D.cleanL cs
  | .lst _ cs => D.cleanL cs
  | .fn _ a b => D.cleanL a && D.cleanL b
  | .undef => true
  | .bool _ => true
  | .int _ _ => true
  | .str _ => true
  | .nilp => true
  | .nils => true
  | .nilf => true
def D.cleanL : List D → Bool
  | [] => true
  | d :: ds => D.clean d && D.cleanL ds
end

/-- Freezing: what a value leads to above level l (levels greater than l) is written out as plain data, and its blocks die. n: how deep. -/
def frz (l : Nat) : Nat → D → Stack → D × Stack
  | 0, _, σ => (.undef, σ)
  | n + 1, d, σ =>
    if d.clean then (d, σ) else
    match d with
    | .agg cs => let r := frzL (frz l n) cs σ; (.agg r.1, r.2)
    | .tup cs => let r := frzL (frz l n) cs σ; (.tup r.1, r.2)
    | .cref cs => let r := frzL (frz l n) cs σ; (.cref r.1, r.2)
    | .lst m cs => let r := frzL (frz l n) cs σ; (.lst m r.1, r.2)
    | .own s cs => let r := frzL (frz l n) cs σ; (.own s r.1, r.2)
    | .fn f a b => let r := frzL (frz l n) a σ; let r' := frzL (frz l n) b r.2; (.fn f r.1 r'.1, r'.2)
    | .ref l' i v off => if l' ≤ l then (.ref l' i v off, σ) else (.undef, σ)
    | .yld l' i => if l' ≤ l then (.yld l' i, σ) else (.undef, σ)
    | .sl l' i v off m w =>
      if l' ≤ l then (.sl l' i v off m w, σ) else
      match cells? σ l' i v with
      | some cs => let r := frzL (frz l n) ((cs.drop off).take (m * w)) (setBlk σ l' i .dead); (.lst m r.1, r.2)
      | none => (.undef, σ)
    | _ => (.undef, σ)
where
  frzL (f : D → Stack → D × Stack) : List D → Stack → List D × Stack
    | [], σ => ([], σ)
    | d :: ds, σ => let r := f d σ; let r' := frzL f ds r.2; (r.1 :: r'.1, r'.2)

/-- How deep values are written out. -/
def deep : Nat := 16

def frzE (l : Nat) : Env → Stack → Env × Stack
  | [], σ => ([], σ)
  | (t, d) :: e, σ => let r := frz l deep d σ; let r' := frzE l e r.2; ((t, r.1) :: r'.1, r'.2)

inductive Q where
  | call (kp : Bool) (f : Nat) (args : List D) (σ : Stack)
  | loop (live : List Nat) (seg : Bool) (c : Cmd) (env : Env) (σ : Stack)
  | round (l i : Nat) (args : List D) (σ : Stack)

inductive R where
  | val (d : D) (σ : Stack)
  | ctl (e : Exit) (env : Env) (σ : Stack)

abbrev Oracle := Q → Option R

def opd (e : Env) : Opd → D
  | .t n => (get e n).strip
  | .c d => d

/-- One cell, or the cells of a struct or an array. -/
def D.cells : D → Option (List D)
  | .agg cs => some cs
  | .undef => none
  | .tup _ => none
  | .own .. => none
  | .vr .. => none
  | d => some [d]

/-- The cells of a struct or an array; or the one cell. -/
def D.row (ag : Bool) (d : D) : Option (List D) :=
  match ag, d with
  | true, .agg cs => some cs
  | true, _ => none
  | false, .agg _ => none
  | false, d => d.cells

/-- Parts laid over zero cells. -/
def fillD (e : Env) : List (Nat × Nat × Opd) → List D → Option (List D)
  | [], cs => some cs
  | (off, sz, x) :: r, cs =>
    match (opd e x).cells with
    | some p => if p.length = sz ∧ off + sz ≤ cs.length then fillD e r (cs.take off ++ p ++ cs.drop (off + sz)) else none
    | none => none

/-- Are two rows of numbers (of these kinds) and bools (none) the same? -/
def eqK : List (Option IntKind) → List D → List D → Option Bool
  | [], [], [] => some true
  | some k :: ks, .int k1 a :: x, .int k2 b :: y => if k1 = k ∧ k2 = k then (eqK ks x y).map (a == b && ·) else none
  | none :: ks, .bool a :: x, .bool b :: y => (eqK ks x y).map (a == b && ·)
  | _, _, _ => none

def binD (o : BinOp) : D → D → Option D
  | .int k a, .int k' b =>
    match o with
    | .shl => if b < 0 then none else some (.int k (k.wrap (a * 2 ^ (min b.toNat k.bits))))
    | .shr => if b < 0 then none else some (.int k (a.fdiv (2 ^ (min b.toNat k.bits))))
    | .add => if k = k' then some (.int k (k.wrap (a + b))) else none
    | .sub => if k = k' then some (.int k (k.wrap (a - b))) else none
    | .mul => if k = k' then some (.int k (k.wrap (a * b))) else none
    | .quo => if k = k' ∧ b ≠ 0 then some (.int k (k.wrap (a.tdiv b))) else none
    | .rem => if k = k' ∧ b ≠ 0 then some (.int k (a.tmod b)) else none
    | .and => if k = k' then some (.int k (k.wrap ((BitVec.ofInt k.bits a &&& BitVec.ofInt k.bits b).toNat : Int))) else none
    | .or => if k = k' then some (.int k (k.wrap ((BitVec.ofInt k.bits a ||| BitVec.ofInt k.bits b).toNat : Int))) else none
    | .xor => if k = k' then some (.int k (k.wrap ((BitVec.ofInt k.bits a ^^^ BitVec.ofInt k.bits b).toNat : Int))) else none
    | .andNot => none
    | .eql => if k = k' then some (.bool (a == b)) else none
    | .neq => if k = k' then some (.bool (a != b)) else none
    | .lss => if k = k' then some (.bool (decide (a < b))) else none
    | .leq => if k = k' then some (.bool (decide (a ≤ b))) else none
    | .gtr => if k = k' then some (.bool (decide (a > b))) else none
    | .geq => if k = k' then some (.bool (decide (a ≥ b))) else none
  | _, _ => none

def intD : D → Option Int
  | .int _ n => some n
  | _ => none

/-- One bound, from 0 to m. -/
def bnd (e : Env) (m : Nat) (dfl : Option Nat) : Option Opd → Option Nat
  | some x => match intD (opd e x) with
    | some n => if 0 ≤ n ∧ n ≤ m then some n.toNat else none
    | none => none
  | none => dfl

/-- The bounds of a slice expression, of a length. -/
def bounds (len : Nat) (e : Env) (lo hi mx : Option Opd) : Option (Nat × Nat) :=
  (bnd e len (some len) mx).bind fun m => (bnd e m (if mx.isSome then none else some len) hi).bind fun h => (bnd e h (some 0) lo).map fun l => (l, h)

/-- The elements that are appended. -/
def elems (σ : Stack) (w : Nat) : D → Option (Nat × List D)
  | .nils => some (0, [])
  | .lst n cs => if cs.length = n * w then some (n, cs) else none
  | .sl l i v off n w' =>
    if w' = w then
      match cells? σ l i v with
      | some cs => if off + n * w ≤ cs.length then some (n, (cs.drop off).take (n * w)) else none
      | none => none
    else none
  | _ => none

/-- The greatest length, in bytes, to which a slice may grow here. -/
def room : Nat := 2 ^ 46

/-- Cells whose nil slices become empty blocks of their own, which may grow: (place, cells of an element). -/
def nilbs : List (Nat × Nat) → List D → Stack → Option (List D × Stack)
  | [], cs, σ => some (cs, σ)
  | (p, w) :: r, cs, σ =>
    match cs[p]? with
    | some .nils => do
      let (l, i, σ') ← newBlk σ (.cells 0 [])
      nilbs r (cs.set p (.sl l i 0 0 0 w)) σ'
    | _ => nilbs r cs σ

/-- What temporary a leads to, inside the variable v: the stamp, the cells, the place. -/
def inVar (e : Env) (v a : Nat) : Option (Nat × List D × Nat) :=
  match get e v with
  | .own s cs =>
    if a = v then some (s, cs, 0) else
    match get e a with
    | .vr x s' off => if x = v ∧ s' = s then some (s, cs, off) else none
    | _ => none
  | _ => none

/-- The next stamp of a variable. -/
def stamp (e : Env) (v : Nat) : Nat :=
  match get e v with
  | .own s _ => s + 1
  | _ => 0

/-- The cells that an address leads to. -/
def rdD (σ : Stack) : D → Option (List D)
  | .cref cs => some cs
  | .ref l i v off => (cells? σ l i v).map (·.drop off)
  | _ => none

/-- An operation that is no call: its value, and the store behind it. -/
def sop (e : Env) (σ : Stack) : K → Option (D × Stack)
  | .mv x => some (opd e x, σ)
  | .nilb w => do
    let (l, i, σ') ← newBlk σ (.cells 0 [])
    some (.sl l i 0 0 0 w, σ')
  | .pick c a b =>
    match opd e c with
    | .bool t => some (if t then opd e a else opd e b, σ)
    | _ => none
  | .alc nb cs => do
    let (cs', σ1) ← nilbs nb cs σ
    let (l, i, σ') ← newBlk σ1 (.cells 0 cs')
    some (.ref l i 0 0, σ')
  | .boxi x => (opd e x).cells.map fun cs => (.cref cs, σ)
  | .boxm x => do
    let cs ← (opd e x).cells
    let (l, i, σ') ← newBlk σ (.cells 0 cs)
    some (.ref l i 0 0, σ')
  | .alcv .. => none
  | .boxv _ => none
  | .stv .. => none
  | .ldv v ag sz a =>
    match inVar e v a with
    | some (_, cs, off) =>
      let cs := cs.drop off
      if sz ≤ cs.length then
        if ag then some (.agg (cs.take sz), σ) else
        match cs with
        | d :: _ => some (d, σ)
        | [] => none
      else none
    | none => none
  | .bld zero parts => do
    let cs ← fillD e parts zero
    some (.agg cs, σ)
  | .bsi n _ zero parts => do
    let cs ← fillD e parts zero
    some (.lst n cs, σ)
  | .bsm n w zero parts => do
    let cs ← fillD e parts zero
    let (l, i, σ') ← newBlk σ (.cells 0 cs)
    some (.sl l i 0 0 n w, σ')
  | .ld ag sz a =>
    match rdD σ (opd e a) with
    | some cs =>
      if sz ≤ cs.length then
        if ag then some (.agg (cs.take sz), σ) else
        match cs with
        | d :: _ => some (d, σ)
        | [] => none
      else none
    | none => none
  | .st nb sz a x =>
    match opd e a with
    | .ref l i v off =>
      match cells? σ l i v with
      | some cs =>
        match (opd e x).cells with
        | some p =>
          if p.length = sz ∧ off + sz ≤ cs.length then
            if l + 1 = σ.length then
              match nilbs nb p σ with
              | some (p', σ1) => some (.undef, setBlk σ1 l i (.cells v (cs.take off ++ p' ++ cs.drop (off + sz))))
              | none => none
            else
              let r := frz.frzL (frz l deep) p σ
              some (.undef, setBlk r.2 l i (.cells v (cs.take off ++ r.1 ++ cs.drop (off + sz))))
          else none
        | none => none
      | none => none
    | _ => none
  | .bin o x y => (binD o (opd e x) (opd e y)).map (·, σ)
  | .eqv ag ks neg x y =>
    match (opd e x).row ag, (opd e y).row ag with
    | some p, some q => (eqK ks p q).map fun b => (.bool (if neg then !b else b), σ)
    | _, _ => none
  | .un o x =>
    match o, opd e x with
    | .not, .bool b => some (.bool !b, σ)
    | .neg, .int k n => some (.int k (k.wrap (0 - n)), σ)
    | _, _ => none
  | .cvt k x =>
    match opd e x with
    | .int _ n => some (.int k (k.wrap n), σ)
    | _ => none
  | .mkf f first cap => some (.fn f (first.map (opd e)) (cap.map (opd e)), σ)
  | .mks w bytes zero l c =>
    match opd e l, opd e c with
    | .int .i64 n, .int .i64 m =>
      if 0 ≤ n ∧ n = m ∧ n * bytes ≤ (room : Int) ∧ zero.length = w then do
        let (l, i, σ') ← newBlk σ (.cells 0 ((List.range n.toNat).flatMap fun _ => zero))
        some (.sl l i 0 0 n.toNat w, σ')
      else none
    | _, _ => none
  | .slc w x lo hi mx =>
    match opd e x with
    | .lst n cs => (bounds n e lo hi mx).map fun b => (.lst (b.2 - b.1) ((cs.drop (b.1 * w)).take ((b.2 - b.1) * w)), σ)
    | .sl l i v off n w' => if w' = w then (bounds n e lo hi mx).map fun b => (.sl l i v (off + b.1 * w) (b.2 - b.1) w, σ) else none
    | .nils => (bounds 0 e lo hi mx).map fun _ => (.nils, σ)
    | _ => none
  | .slca len w x lo hi =>
    match opd e x with
    | .cref cs => (bounds len e lo hi none).map fun b => (.lst (b.2 - b.1) ((cs.drop (b.1 * w)).take ((b.2 - b.1) * w)), σ)
    | .ref l i v off =>
      match cells? σ l i v with
      | some cs => if off + len * w ≤ cs.length then (bounds len e lo hi none).map fun b => (.sl l i v (off + b.1 * w) (b.2 - b.1) w, σ) else none
      | none => none
    | _ => none
  | .fadr off x =>
    match x with
    | .t n =>
      match get e n with
      | .cref cs => some (.cref (cs.drop off), σ)
      | .ref l i v o => some (.ref l i v (o + off), σ)
      | .own s _ => some (.vr n s off, σ)
      | .vr v s o => some (.vr v s (o + off), σ)
      | _ => none
    | .c _ => none
  | .fld ag off sz x =>
    match opd e x with
    | .agg cs =>
      if off + sz ≤ cs.length then
        if ag then some (.agg ((cs.drop off).take sz), σ) else (cs[off]?).map (·, σ)
      else none
    | _ => none
  | .idxA len w x i =>
    match x, intD (opd e i) with
    | .t m, some n =>
      if 0 ≤ n ∧ n < len then
        match get e m with
        | .cref cs => some (.cref ((cs.drop (n.toNat * w)).take w), σ)
        | .ref l j v off => some (.ref l j v (off + n.toNat * w), σ)
        | .own s _ => some (.vr m s (n.toNat * w), σ)
        | .vr v s o => some (.vr v s (o + n.toNat * w), σ)
        | _ => none
      else none
    | _, _ => none
  | .idxS w x i =>
    match opd e x, intD (opd e i) with
    | .lst m cs, some n => if 0 ≤ n ∧ n < m then some (.cref ((cs.drop (n.toNat * w)).take w), σ) else none
    | .sl l j v off m w', some n => if 0 ≤ n ∧ n < m ∧ w' = w then some (.ref l j v (off + n.toNat * w), σ) else none
    | _, _ => none
  | .idxV ag len w x i =>
    match opd e x, intD (opd e i) with
    | .agg cs, some n =>
      if 0 ≤ n ∧ n < len ∧ (n.toNat + 1) * w ≤ cs.length then
        if ag then some (.agg ((cs.drop (n.toNat * w)).take w), σ) else (cs[n.toNat * w]?).map (·, σ)
      else none
    | _, _ => none
  | .lenS x =>
    match opd e x with
    | .nils => some (.int .i64 0, σ)
    | .lst n _ => some (.int .i64 n, σ)
    | .sl _ _ _ _ n _ => some (.int .i64 n, σ)
    | _ => none
  | .lenC n => some (.int .i64 n, σ)
  | .mn x y =>
    match opd e x, opd e y with
    | .int k a, .int _ b => some (.int k (min a b), σ)
    | _, _ => none
  | .mx x y =>
    match opd e x, opd e y with
    | .int k a, .int _ b => some (.int k (max a b), σ)
    | _, _ => none
  | .app w bytes s x => do
    let (m, xs) ← elems σ w (opd e x)
    match opd e s with
    | .nils =>
      if m * bytes ≤ room then
        if m = 0 then some (.nils, σ) else do
        let (l, i, σ') ← newBlk σ (.cells 0 xs)
        some (.sl l i 0 0 m w, σ')
      else none
    | .sl l i v off n w' =>
      match cells? σ l i v with
      | some cs =>
        if w' = w ∧ off + n * w ≤ cs.length ∧ (n + m) * bytes ≤ room then
          if l + 1 = σ.length then
            some (.sl l i (v + 1) 0 (n + m) w, setBlk σ l i (.cells (v + 1) ((cs.drop off).take (n * w) ++ xs)))
          else
            let r := frz.frzL (frz l deep) xs σ
            some (.sl l i (v + 1) 0 (n + m) w, setBlk r.2 l i (.cells (v + 1) ((cs.drop off).take (n * w) ++ r.1)))
        else none
      | none => none
    | _ => none
  | .cpi w bytes x => do
    let (m, xs) ← elems σ w (opd e x)
    if m * bytes ≤ room then some (.lst m xs, σ) else none
  | .ext x i =>
    match opd e x with
    | .tup ds => (ds[i]?).map (·, σ)
    | _ => none
  | .call _ _ _ => none

def R.vals : Option R → Option (D × Stack)
  | some (.val d σ) => some (d, σ)
  | _ => none

def R.ctls : Option R → Option (Exit × Env × Stack)
  | some (.ctl e env σ) => some (e, env, σ)
  | _ => none

/-- A function value called. -/
def callv (O : Oracle) (kp : Bool) (fv : D) (args : List D) (σ : Stack) : Option (D × Stack) :=
  match fv with
  | .fn f first cap => R.vals (O (.call kp f (first ++ args ++ cap) σ))
  | .yld l i => R.vals (O (.round l i args σ))
  | _ => none

/-- A function called, but no loop's body. -/
def callf (O : Oracle) (fv : D) (args : List D) (σ : Stack) : Option (D × Stack) :=
  match fv with
  | .fn f first cap => R.vals (O (.call false f (first ++ args ++ cap) σ))
  | _ => none

/-- Any operation: the temporaries and the store behind it. -/
def aop (O : Oracle) (op : Op) (e : Env) (σ : Stack) : Option (Env × Stack) :=
  match op.k with
  | .call kp f args =>
    match callv O kp (opd e f) (args.map (opd e)) σ with
    | some (d, σ') => if op.ntr = true → σ' = σ then some (put op.dst d e, σ') else none
    | none => none
  | .alcv nb cs =>
    match op.dst, nilbs nb cs σ with
    | some v, some (cs', σ') => some ((v, .own (stamp e v) cs') :: e, σ')
    | _, _ => none
  | .boxv x =>
    match op.dst, (opd e x).cells with
    | some v, some cs => some ((v, .own (stamp e v) cs) :: e, σ)
    | _, _ => none
  | .stv v nb sz a x =>
    match inVar e v a, (opd e x).cells with
    | some (s, cs, off), some p =>
      if p.length = sz ∧ off + sz ≤ cs.length then
        match nilbs nb p σ with
        | some (p', σ') => some ((v, .own s (cs.take off ++ p' ++ cs.drop (off + sz))) :: e, σ')
        | none => none
      else none
    | _, _ => none
  | k => (sop e σ k).map fun x => (put op.dst x.1 e, x.2)

/-- What a guard finds: a bool; or that its operation was passed over. -/
def D.bit : D → Option (Option Bool)
  | .bool b => some (some b)
  | .tup [] => some none
  | _ => none

def aops (O : Oracle) : List Op → Env → Stack → Option (Env × Stack)
  | [], e, σ => some (e, σ)
  | op :: r, e, σ =>
    match op.grd with
    | none => (aop O op e σ).bind fun x => aops O r x.1 x.2
    | some (g, want) =>
      match (get e g).bit with
      | some y => if y = some want then (aop O op e σ).bind fun x => aops O r x.1 x.2 else aops O r (put op.dst (.tup []) e) σ
      | none => none

/-- A command. -/
def acode (O : Oracle) : Cmd → Env → Stack → Option (Exit × Env × Stack)
  | .nop, e, σ => some (.normal, e, σ)
  | .reg live ops, e, σ => (aops O ops e σ).map fun x => (.normal, restrict live x.1, x.2)
  | .seq a b, e, σ => (acode O a e σ).bind fun x =>
    match x.1 with
    | .normal => acode O b x.2.1 x.2.2
    | _ => some x
  | .ite c a b, e, σ =>
    match opd e c with
    | .bool t => if t then acode O a e σ else acode O b e σ
    | _ => none
  | .blk id a, e, σ => (acode O a e σ).map fun x =>
    match x.1 with
    | .exit j => if j = id then (.normal, x.2) else x
    | _ => x
  | .loop live seg a, e, σ => R.ctls (O (.loop live seg a e σ))
  | .rngf live f params asg body, e, σ =>
    match newBlk σ (.loop { state := 0, pend := none, env := strips live e, params, asg, body }) with
    | some (l, i, σ1) =>
      match callf O (opd e f) [.yld l i] σ1 with
      | some (_, σ2) =>
        match blk? σ2 l i with
        | some (.loop lp) =>
          if lp.state = 1 then none else
          some (lp.pend.getD .normal, restrict live e, setBlk σ2 l i (.loop { lp with state := 3 }))
        | _ => none
      | none => none
    | none => none
  | .exit id, e, σ => some (.exit id, e, σ)
  | .ret, e, σ => some (.ret, e, σ)

/-- A result: a temporary, or a variable in a block. -/
inductive Res where
  | t (n : Nat)
  | c (n : Nat) (ag : Bool) (sz : Nat)
  | v (n : Nat) (ag : Bool) (sz : Nat)

structure Fn where
  npar : Nat
  res : List Res
  body : Cmd

def resD (e : Env) (σ : Stack) : Res → Option D
  | .t n => some (get e n).strip
  | .c n ag sz => (sop e σ (.ld ag sz (.t n))).map (·.1)
  | .v n ag sz => (sop e σ (.ldv n ag sz n)).map (·.1)

def resL (e : Env) (σ : Stack) : List Res → Option (List D)
  | [] => some []
  | r :: rs => (resD e σ r).bind fun d => (resL e σ rs).map fun ds => d :: ds

def mkRes : List D → D
  | [d] => d
  | ds => .tup ds

def mkEnv (n : Nat) : List D → Env
  | [] => []
  | d :: ds => (n, d) :: mkEnv (n + 1) ds

def putAll : List Nat → List D → Env → Env
  | t :: ts, d :: ds, e => putAll ts ds ((t, d) :: e)
  | _, _, e => e

abbrev Tbl := Nat → Option Fn

/-- One step of the whole: what is asked, by what is answered. -/
def stepQ (T : Tbl) (O : Oracle) : Q → Option R
  | .call kp f args σ =>
    match T f with
    | some fn =>
      if args.length = fn.npar then
        match acode O fn.body (mkEnv 0 args) (if kp then σ else [] :: σ) with
        | some (.exit _, _, _) => none
        | some (_, e, σ1) =>
          match resL e σ1 fn.res with
          | some ds =>
            if kp then some (.val (mkRes ds) σ1) else
            match frz (σ.length - 1) deep (mkRes ds) σ1 with
            | (d, _ :: σ2) => some (.val d σ2)
            | _ => none
          | none => none
        | none => none
      else none
    | none => none
  | .loop live seg c e σ =>
    match acode O c (restrict live e) (if seg then [] :: σ else σ) with
    | some (x, e1, σ1) =>
      let (e2, σ2) := if seg then (let r := frzE (σ.length - 1) (restrict (liveAt live x e1) e1) σ1; (r.1, r.2.tail)) else (e1, σ1)
      match x with
      | .normal => O (.loop live seg c e2 σ2)
      | x => some (.ctl x e2 σ2)
    | none => none
  | .round l i args σ =>
    match blk? σ l i with
    | some (.loop lp) =>
      if args.length = lp.params.length then
        match acode O lp.asg (putAll lp.params args lp.env) ([] :: σ) with
        | some (.normal, e1, σ1) =>
          match blk? σ1 l i with
          | some (.loop lp1) =>
            if lp1.state = 0 then
              match acode O lp.body e1 (setBlk σ1 l i (.loop { lp1 with state := 1 })) with
              | some (x, _, _ :: σ2) =>
                match blk? σ2 l i with
                | some (.loop lp2) =>
                  match x with
                  | .normal => some (.val (.bool true) (setBlk σ2 l i (.loop { lp2 with state := 0, pend := none })))
                  | x => some (.val (.bool false) (setBlk σ2 l i (.loop { lp2 with state := 2, pend := some x })))
                | _ => none
              | _ => none
            else none
          | _ => none
        | _ => none
      else none
    | _ => none

/-- What n steps answer. -/
def it (T : Tbl) : Nat → Oracle
  | 0 => fun _ => none
  | n + 1 => stepQ T (it T n)

open Classical in
/-- What is answered at last. -/
noncomputable def lim (T : Tbl) : Oracle := fun q =>
  if h : ∃ n r, it T n q = some r then some h.choose_spec.choose else none

end Go.Abs
