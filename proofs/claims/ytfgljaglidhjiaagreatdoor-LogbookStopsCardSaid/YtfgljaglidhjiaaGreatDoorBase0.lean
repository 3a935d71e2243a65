/- The interpreter, part 0: proved sound against the model. -/
import GoSem.Core.View
import Derived.Lib.AtoiAll
import Derived.AtR
import Derived.Laws.Cells
import Derived.Laws.World
import Derived.Lib.FrozenHead
import GoSem.Core.Program
import GoSem.Core.Layout
import Derived.Laws.Build
import Derived.Laws.Entries
import Derived.Laws.StructEq
/-
  The abstract interpreter: a small instruction set with values as plain data; what a call answers is a Lean function of it. No model of memory but a stack of segments of blocks. Mine, for every seat.
-/
namespace Go.Abs

inductive D where
  | undef
  | bool (b : Bool)
  | int (k : IntKind) (n : Int)
  | str (s : List UInt8)
  | agg (cs : List D)
  | tup (cs : List D)
  | nilp
  | ref (l i v off : Nat)
  | cref (cs : List D)
  | nils
  | lst (n : Nat) (cs : List D)
  | sl (l i v off n w : Nat)
  | fn (f : Nat) (first cap : List D)
  | nilf
  | yld (l i : Nat)
  | own (s : Nat) (cs : List D)
  | vr (x s off : Nat)
  | ifc (t : Nat) (d : D)
  | nili
  | emp
  deriving Inhabited

mutual
def D.same : D → D → Bool
  | .undef, .undef => true
  | .bool a, .bool b => a == b
  | .int k n, .int k' n' => k == k' && n == n'
  | .str a, .str b => a == b
  | .agg a, .agg b => D.sameL a b
  | .tup a, .tup b => D.sameL a b
  | .nilp, .nilp => true
  | .ref a b c d, .ref a' b' c' d' => a == a' && b == b' && c == c' && d == d'
  | .cref a, .cref b => D.sameL a b
  | .nils, .nils => true
  | .lst n a, .lst m b => n == m && D.sameL a b
  | .sl a b c d e f, .sl a' b' c' d' e' f' => a == a' && b == b' && c == c' && d == d' && e == e' && f == f'
  | .fn f a b, .fn f' a' b' => f == f' && D.sameL a a' && D.sameL b b'
  | .nilf, .nilf => true
  | .yld a b, .yld a' b' => a == a' && b == b'
  | .own s a, .own s' b => s == s' && D.sameL a b
  | .vr a b c, .vr a' b' c' => a == a' && b == b' && c == c'
  | .ifc t a, .ifc t' b => t == t' && D.same a b
  | .nili, .nili => true
  | .emp, .emp => true
  | _, _ => false
def D.sameL : List D → List D → Bool
  | [], [] => true
  | a :: as, b :: bs => D.same a b && D.sameL as bs
  | _, _ => false
end

mutual
theorem same_eq : ∀ {a b : D}, D.same a b = true → a = b
  | .undef, b, h => by cases b <;> simp [D.same] at h; rfl
  | .bool _, b, h => by cases b <;> simp [D.same] at h; rw [h]
  | .int _ _, b, h => by cases b <;> simp [D.same] at h; rw [h.1, h.2]
  | .str _, b, h => by cases b <;> simp [D.same] at h; rw [h]
  | .agg _, b, h => by cases b <;> simp [D.same] at h; rw [sameL_eq h]
  | .tup _, b, h => by cases b <;> simp [D.same] at h; rw [sameL_eq h]
  | .nilp, b, h => by cases b <;> simp [D.same] at h; rfl
  | .ref .., b, h => by cases b <;> simp [D.same] at h; simp [h]
  | .cref _, b, h => by cases b <;> simp [D.same] at h; rw [sameL_eq h]
  | .nils, b, h => by cases b <;> simp [D.same] at h; rfl
  | .lst .., b, h => by cases b <;> simp [D.same] at h; rw [h.1, sameL_eq h.2]
  | .sl .., b, h => by cases b <;> simp [D.same] at h; simp [h]
  | .fn .., b, h => by cases b <;> simp [D.same] at h; rw [h.1.1, sameL_eq h.1.2, sameL_eq h.2]
  | .nilf, b, h => by cases b <;> simp [D.same] at h; rfl
  | .yld .., b, h => by cases b <;> simp [D.same] at h; simp [h]
  | .own .., b, h => by cases b <;> simp [D.same] at h; rw [h.1, sameL_eq h.2]
  | .vr .., b, h => by cases b <;> simp [D.same] at h; simp [h]
  | .ifc _ a, b, h => by cases b <;> simp [D.same] at h; rw [h.1, same_eq h.2]
  | .nili, b, h => by cases b <;> simp [D.same] at h; rfl
  | .emp, b, h => by cases b <;> simp [D.same] at h; rfl
theorem sameL_eq : ∀ {a b : List D}, D.sameL a b = true → a = b
  | [], [], _ => rfl
  | [], _ :: _, h => by simp [D.sameL] at h
  | _ :: _, [], h => by simp [D.sameL] at h
  | a :: as, b :: bs, h => by
    simp only [D.sameL, Bool.and_eq_true] at h
    rw [same_eq h.1, sameL_eq h.2]
end

mutual
theorem same_refl : ∀ (a : D), D.same a a = true
  | .undef => rfl
  | .bool b => by simp [D.same]
  | .int k n => by simp [D.same]
  | .str s => by simp [D.same]
  | .agg a => by simp [D.same, sameL_refl a]
  | .tup a => by simp [D.same, sameL_refl a]
  | .nilp => rfl
  | .ref .. => by simp [D.same]
  | .cref a => by simp [D.same, sameL_refl a]
  | .nils => rfl
  | .lst n a => by simp [D.same, sameL_refl a]
  | .sl .. => by simp [D.same]
  | .fn f a b => by simp [D.same, sameL_refl a, sameL_refl b]
  | .nilf => rfl
  | .yld .. => by simp [D.same]
  | .own s a => by simp [D.same, sameL_refl a]
  | .vr .. => by simp [D.same]
  | .ifc t a => by simp [D.same, same_refl a]
  | .nili => rfl
  | .emp => rfl
theorem sameL_refl : ∀ (a : List D), D.sameL a a = true
  | [] => rfl
  | a :: as => by simp [D.sameL, same_refl a, sameL_refl as]
end

instance : DecidableEq D := fun a b => if h : D.same a b = true then isTrue (same_eq h) else isFalse fun e => h (e ▸ same_refl a)

inductive Opd where
  | t (n : Nat)
  | c (d : D)
  deriving Inhabited, DecidableEq

inductive Pu where
  | slen
  | sidx
  | scat
  | ssub (lo hi : Bool)
  | seq (neg : Bool)
  deriving Inhabited, DecidableEq

def puD : Pu → List D → Option D
  | .slen, [.str s] => some (.int .i64 s.length)
  | .sidx, [.str s, .int _ i] => if 0 ≤ i then (s[i.toNat]?).map fun b => .int .u8 b.toNat else none
  | .scat, [.str a, .str b] => if a.length + b.length ≤ 4611686018427387904 then some (.str (a ++ b)) else none
  | .ssub true true, [.str s, .int _ i, .int _ j] => if 0 ≤ i ∧ i ≤ j ∧ j ≤ s.length then some (.str ((s.drop i.toNat).take (j.toNat - i.toNat))) else none
  | .ssub true false, [.str s, .int _ i] => if 0 ≤ i ∧ i ≤ s.length then some (.str (s.drop i.toNat)) else none
  | .ssub false true, [.str s, .int _ j] => if 0 ≤ j ∧ j ≤ s.length then some (.str (s.take j.toNat)) else none
  | .ssub false false, [.str s] => some (.str s)
  | .seq neg, [.str a, .str b] => some (.bool (if neg then !(a == b) else a == b))
  | _, _ => none

abbrev Ky := Option (Bool × List (Option IntKind))

inductive Mo where
  | make
  | bld (t e : Nat)
  | get (ky : Ky) (zero : D) (ok : Bool)
  | put (ky : Ky)
  | len
  | rng
  | ent
  deriving Inhabited, DecidableEq

inductive Me where
  | b2s
  | s2b
  | s2a (n w : Nat)
  | peq (neg : Bool)
  deriving Inhabited, DecidableEq

inductive K where
  | mv (x : Opd)
  | nilb (w : Nat)
  | pick (c a b : Opd)
  | alc (nb : List (Nat × Nat)) (cs : List D)
  | alcv (nb : List (Nat × Nat)) (cs : List D)
  | boxi (x : Opd)
  | boxm (x : Opd)
  | bxn (nb : List (Nat × Nat)) (x : Opd)
  | boxv (x : Opd)
  | bld (zero : List D) (parts : List (Nat × Nat × Opd))
  | bsi (n w : Nat) (zero : List D) (parts : List (Nat × Nat × Opd))
  | bsm (n w : Nat) (zero : List D) (parts : List (Nat × Nat × Opd))
  | ld (ag : Bool) (sz : Nat) (a : Opd)
  | ldi (ag : Bool) (sz : Nat) (a : Opd)
  | ld0 (ag : Bool) (sz : Nat) (a : Opd)
  | isn (ps neg : Bool) (x : Opd)
  | nck (x : Opd)
  | st (nb : List (Nat × Nat)) (sz : Nat) (a x : Opd)
  | stc (os : List Nat) (sz : Nat) (a x : Opd)
  | ldv (v : Nat) (ag : Bool) (sz : Nat) (a : Nat)
  | stv (v : Nat) (nb : List (Nat × Nat)) (sz : Nat) (a : Nat) (x : Opd)
  | bin (o : BinOp) (x y : Opd)
  | eqv (ag : Bool) (ks : List (Option IntKind)) (neg : Bool) (x y : Opd)
  | un (o : UnOp) (x : Opd)
  | cvt (k : IntKind) (x : Opd)
  | mkf (f : Nat) (first cap : List Opd)
  | mks (w bytes : Nat) (zero : List D) (l c : Opd)
  | slc (w : Nat) (x : Opd) (lo hi mx : Option Opd)
  | slca (len w : Nat) (x : Opd) (lo hi : Option Opd)
  | fadr (off : Nat) (x : Opd)
  | fld (ag : Bool) (off sz : Nat) (x : Opd)
  | idxA (len w : Nat) (x i : Opd)
  | idxS (w : Nat) (x i : Opd)
  | idxV (ag : Bool) (len w : Nat) (x i : Opd)
  | lenS (x : Opd)
  | lenC (n : Nat)
  | mn (x y : Opd)
  | mx (x y : Opd)
  | app (w bytes : Nat) (s x : Opd)
  | apc (os : List Nat) (w bytes : Nat) (s x : Opd)
  | apz (w bytes : Nat) (s x : Opd)
  | cpi (w bytes : Nat) (x : Opd)
  | bse
  | ape (w bytes v : Nat) (x : Opd)
  | ext (x : Opd) (i : Nat)
  | pur (o : Pu) (xs : List Opd)
  | mp (o : Mo) (xs : List Opd)
  | me (o : Me) (xs : List Opd)
  | mki (t : Nat) (x : Opd)
  | tas (t : Nat) (zero : Option D) (x : Opd)
  | isi (neg : Bool) (x : Opd)
  | pan (x : Opd)
  | rcv
  | call (kp : Bool) (f : Opd) (args : List Opd)
  deriving Inhabited, DecidableEq

structure Op where
  dst : Option Nat
  grd : Option (Nat × Bool)
  ntr : Bool
  k : K
  deriving Inhabited, DecidableEq

inductive Cmd where
  | nop
  | frz (vs : List Nat)
  | reg (live : List Nat) (ops : List Op)
  | seq (a b : Cmd)
  | ite (c : Opd) (a b : Cmd)
  | blk (id : Nat) (a : Cmd)
  | loop (live : List Nat) (seg : Bool) (a : Cmd)
  | rngf (live : List Nat) (f : Opd) (params : List Nat) (asg body : Cmd)
  | mloop (live : List Nat) (it : Opd) (nx ok b : Nat) (a rest : Cmd)
  | treg (live : List Nat) (pre : List Op) (op : Op) (post : List Op)
  | dfr (f : Opd) (args : List Opd) (rest : Cmd)
  | exit (id : Nat)
  | ret
  deriving Inhabited, DecidableEq

inductive Exit where
  | normal
  | exit (id : Nat)
  | ret
  | thr (d : D)
  deriving Inhabited, DecidableEq

abbrev Env := List (Nat × D)

def get : Env → Nat → D
  | [], _ => .undef
  | (k, v) :: r, t => if k = t then v else get r t

def put (d : Option Nat) (v : D) (e : Env) : Env :=
  match d with
  | some t => (t, v) :: e
  | none => e

def D.calm : D → D
  | .vr .. => .undef
  | .emp => .undef
  | .own _ cs => .own 0 cs
  | d => d

def D.strip : D → D
  | .vr .. => .undef
  | .emp => .undef
  | .own .. => .undef
  | d => d

def restrict (live : List Nat) (e : Env) : Env := live.map fun t => (t, (get e t).calm)

def keys (e : Env) : List Nat := (e.map (·.1)).eraseDups

def strips (live : List Nat) (e : Env) : Env := live.map fun t => (t, (get e t).strip)

def liveAt (live : List Nat) (x : Exit) (e : Env) : List Nat :=
  match x with
  | .normal => live
  | _ => keys e

structure LoopSt where
  state : Nat
  pend : Option Exit
  env : Env
  params : List Nat
  asg : Cmd
  body : Cmd
  deriving DecidableEq

inductive Blk where
  | cells (v : Nat) (cs : List D)
  | dead
  | loop (l : LoopSt)
  deriving DecidableEq

abbrev Stack := List (List Blk)

def seg? : Stack → Nat → Option (List Blk)
  | [], _ => none
  | s :: σ, l => if σ.length = l then some s else seg? σ l

def setSeg : Stack → Nat → List Blk → Stack
  | [], _, _ => []
  | s :: σ, l, s' => if σ.length = l then s' :: σ else s :: setSeg σ l s'

def blk? (σ : Stack) (l i : Nat) : Option Blk := (seg? σ l).bind (·[i]?)

def setBlk (σ : Stack) (l i : Nat) (b : Blk) : Stack :=
  match seg? σ l with
  | some s => setSeg σ l (s.set i b)
  | none => σ

def cells? (σ : Stack) (l i v : Nat) : Option (List D) :=
  match blk? σ l i with
  | some (.cells v' cs) => if v' = v then some cs else none
  | _ => none

def newBlk (σ : Stack) (b : Blk) : Option (Nat × Nat × Stack) :=
  match σ with
  | [] => none
  | s :: σ' => some (σ'.length, s.length, (s ++ [b]) :: σ')

mutual
def D.clean : D → Bool
  | .ref .. => false
  | .sl .. => false
  | .yld .. => false
  | .vr .. => true
  | .emp => true
  | .own _ cs => D.cleanL cs
  | .agg cs => D.cleanL cs
  | .tup cs => D.cleanL cs
  | .cref cs => D.cleanL cs
  | .lst _ cs => D.cleanL cs
  | .fn _ a b => D.cleanL a && D.cleanL b
  | .undef => true
  | .bool _ => true
  | .int _ _ => true
  | .str _ => true
  | .nilp => true
  | .nils => true
  | .nilf => true
  | .ifc _ d => D.clean d
  | .nili => true
def D.cleanL : List D → Bool
  | [] => true
  | d :: ds => D.clean d && D.cleanL ds
end

def frz (l : Nat) : Nat → D → Stack → D × Stack
  | 0, _, σ => (.undef, σ)
  | n + 1, d, σ =>
    if d.clean then (d, σ) else
    match d with
    | .agg cs => let r := frzL (frz l n) cs σ; (.agg r.1, r.2)
    | .tup cs => let r := frzL (frz l n) cs σ; (.tup r.1, r.2)
    | .cref cs => let r := frzL (frz l n) cs σ; (.cref r.1, r.2)
    | .lst m cs => let r := frzL (frz l n) cs σ; (.lst m r.1, r.2)
    | .own s cs => let r := frzL (frz l n) cs σ; (.own s r.1, r.2)
    | .fn f a b => let r := frzL (frz l n) a σ; let r' := frzL (frz l n) b r.2; (.fn f r.1 r'.1, r'.2)
    | .ref l' i v off => if l' ≤ l then (.ref l' i v off, σ) else (.undef, σ)
    | .yld l' i => if l' ≤ l then (.yld l' i, σ) else (.undef, σ)
    | .sl l' i v off m w =>
      if l' ≤ l then (.sl l' i v off m w, σ) else
      match cells? σ l' i v with
      | some cs => let r := frzL (frz l n) ((cs.drop off).take (m * w)) (setBlk σ l' i .dead); (.lst m r.1, r.2)
      | none => (.undef, σ)
    | _ => (.undef, σ)
where
  frzL (f : D → Stack → D × Stack) : List D → Stack → List D × Stack
    | [], σ => ([], σ)
    | d :: ds, σ => let r := f d σ; let r' := frzL f ds r.2; (r.1 :: r'.1, r'.2)

def deep : Nat := 16

def frzE (l : Nat) : Env → Stack → Env × Stack
  | [], σ => ([], σ)
  | (t, d) :: e, σ => let r := frz l deep d σ; let r' := frzE l e r.2; ((t, r.1) :: r'.1, r'.2)

inductive Q where
  | call (kp : Bool) (f : Nat) (args : List D) (σ : Stack)
  | loop (live : List Nat) (seg : Bool) (c : Cmd) (env : Env) (σ : Stack)
  | round (l i : Nat) (args : List D) (σ : Stack)
  | mloop (live : List Nat) (it : Opd) (nx ok b : Nat) (c rest : Cmd) (env : Env) (σ : Stack)
  | dcall (f : Nat) (args : List D) (th : Option D) (σ : Stack)

inductive R where
  | val (d : D) (σ : Stack)
  | ctl (e : Exit) (env : Env) (σ : Stack)
  | thr (d : D) (σ : Stack)
  deriving DecidableEq

abbrev Oracle := Q → Option R

def opd (e : Env) : Opd → D
  | .t n => (get e n).strip
  | .c d => d

def D.cells : D → Option (List D)
  | .agg cs => some cs
  | .undef => none
  | .tup _ => none
  | .own .. => none
  | .vr .. => none
  | .emp => none
  | d => some [d]

def D.row (ag : Bool) (d : D) : Option (List D) :=
  match ag, d with
  | true, .agg cs => some cs
  | true, _ => none
  | false, .agg _ => none
  | false, d => d.cells

def fillD (e : Env) : List (Nat × Nat × Opd) → List D → Option (List D)
  | [], cs => some cs
  | (off, sz, x) :: r, cs =>
    match (opd e x).cells with
    | some p => if p.length = sz ∧ off + sz ≤ cs.length then fillD e r (cs.take off ++ p ++ cs.drop (off + sz)) else none
    | none => none

def eqK : List (Option IntKind) → List D → List D → Option Bool
  | [], [], [] => some true
  | some k :: ks, .int k1 a :: x, .int k2 b :: y => if k1 = k ∧ k2 = k then (eqK ks x y).map (a == b && ·) else none
  | none :: ks, .bool a :: x, .bool b :: y => (eqK ks x y).map (a == b && ·)
  | _, _, _ => none

def binD (o : BinOp) : D → D → Option D
  | .int k a, .int k' b =>
    match o with
    | .shl => if b < 0 then none else some (.int k (k.wrap (a * 2 ^ (min b.toNat k.bits))))
    | .shr => if b < 0 then none else some (.int k (a.fdiv (2 ^ (min b.toNat k.bits))))
    | .add => if k = k' then some (.int k (k.wrap (a + b))) else none
    | .sub => if k = k' then some (.int k (k.wrap (a - b))) else none
    | .mul => if k = k' then some (.int k (k.wrap (a * b))) else none
    | .quo => if k = k' ∧ b ≠ 0 then some (.int k (k.wrap (a.tdiv b))) else none
    | .rem => if k = k' ∧ b ≠ 0 then some (.int k (a.tmod b)) else none
    | .and => if k = k' then some (.int k (k.wrap ((BitVec.ofInt k.bits a &&& BitVec.ofInt k.bits b).toNat : Int))) else none
    | .or => if k = k' then some (.int k (k.wrap ((BitVec.ofInt k.bits a ||| BitVec.ofInt k.bits b).toNat : Int))) else none
    | .xor => if k = k' then some (.int k (k.wrap ((BitVec.ofInt k.bits a ^^^ BitVec.ofInt k.bits b).toNat : Int))) else none
    | .andNot => none
    | .eql => if k = k' then some (.bool (a == b)) else none
    | .neq => if k = k' then some (.bool (a != b)) else none
    | .lss => if k = k' then some (.bool (decide (a < b))) else none
    | .leq => if k = k' then some (.bool (decide (a ≤ b))) else none
    | .gtr => if k = k' then some (.bool (decide (a > b))) else none
    | .geq => if k = k' then some (.bool (decide (a ≥ b))) else none
  | _, _ => none

def intD : D → Option Int
  | .int _ n => some n
  | _ => none

def bnd (e : Env) (m : Nat) (dfl : Option Nat) : Option Opd → Option Nat
  | some x => match intD (opd e x) with
    | some n => if 0 ≤ n ∧ n ≤ m then some n.toNat else none
    | none => none
  | none => dfl

def bounds (len : Nat) (e : Env) (lo hi mx : Option Opd) : Option (Nat × Nat) :=
  (bnd e len (some len) mx).bind fun m => (bnd e m (if mx.isSome then none else some len) hi).bind fun h => (bnd e h (some 0) lo).map fun l => (l, h)

def keyQ (ky : Ky) (a b : D) : Option Bool :=
  match ky with
  | none => match a, b with
    | .str x, .str y => some (x == y)
    | _, _ => none
  | some (ag, ks) => match a.row ag, b.row ag with
    | some p, some q => eqK ks p q
    | _, _ => none

def findK (ky : Ky) (k : D) : List D → Option (Option (Nat × D))
  | [] => some none
  | .tup [k', v] :: es =>
    match keyQ ky k k' with
    | some true => some (some (0, v))
    | some false => (findK ky k es).map fun x => x.map fun y => (y.1 + 1, y.2)
    | none => none
  | _ => none

def mapD (σ : Stack) : D → Option (Nat × Nat × List D)
  | .yld l i => (cells? σ l i 0).map fun es => (l, i, es)
  | _ => none

def mpD (σ : Stack) : Mo → List D → Option (D × Stack)
  | .make, [] => (newBlk σ (.cells 0 [])).map fun x => (.yld x.1 x.2.1, x.2.2)
  | .bld t e, [] => (newBlk σ (.cells 2 [.int .i64 (t : Nat), .int .i64 (e : Nat), .str []])).map fun x => (.yld x.1 x.2.1, x.2.2)
  | .get ky zero ok, [m, k] =>
    match mapD σ m with
    | some (_, _, es) =>
      if (keyQ ky k k).isSome then
        match findK ky k es with
        | some (some (_, v)) => some (if ok then .tup [v, .bool true] else v, σ)
        | some none => some (if ok then .tup [zero, .bool false] else zero, σ)
        | none => none
      else none
    | none => none
  | .put ky, [m, k, v] =>
    match mapD σ m with
    | some (l, i, es) =>
      if (keyQ ky k k).isSome ∧ (l + 1 = σ.length ∨ (k.clean ∧ v.clean)) then
        match findK ky k es with
        | some (some (j, _)) => some (.undef, setBlk σ l i (.cells 0 (es.set j (.tup [k, v]))))
        | some none => some (.undef, setBlk σ l i (.cells 0 (es ++ [.tup [k, v]])))
        | none => none
      else none
    | none => none
  | .len, [m] => (mapD σ m).map fun x => (.int .i64 x.2.2.length, σ)
  | .rng, [m] =>
    match mapD σ m with
    | some (lm, im, es) => (newBlk σ (.cells 1 [.yld lm im, .int .i64 es.length])).map fun x => (.yld x.1 x.2.1, x.2.2)
    | none => none
  | .ent, [.yld l i] =>
    match cells? σ l i 1 with
    | some (m :: .int .i64 n :: .int .i64 j :: _) =>
      match mapD σ m with
      | some (_, _, es) => if (es.length : Int) = n then
          match es[j.toNat]? with
          | some (.tup [k, v]) => some (.tup [k, v], σ)
          | _ => none
        else none
      | none => none
    | _ => none
  | _, _ => none

def strCells (s : List UInt8) : List D := s.map fun b => .int .u8 b.toNat

def elems (σ : Stack) (w : Nat) : D → Option (Nat × List D)
  | .nils => some (0, [])
  | .str s => if w = 1 then some (s.length, strCells s) else none
  | .lst n cs => if cs.length = n * w then some (n, cs) else none
  | .sl l i v off n w' =>
    if w' = w then
      match cells? σ l i v with
      | some cs => if off + n * w ≤ cs.length then some (n, (cs.drop off).take (n * w)) else none
      | none => none
    else none
  | _ => none

def bytesD : List D → Option (List UInt8)
  | [] => some []
  | .int .u8 n :: r => (bytesD r).map (UInt8.ofNat n.toNat :: ·)
  | _ => none
def meD (σ : Stack) : Me → List D → Option (D × Stack)
  | .b2s, [.str _] => none
  | .b2s, [x] => (elems σ 1 x).bind fun r => (bytesD r.2).map fun s => (.str s, σ)
  | .s2b, [.str s] => some (.lst s.length (strCells s), σ)
  | .s2a n w, [.lst m cs] => if 0 < n ∧ n ≤ m then some (.cref (cs.take (n * w)), σ) else none
  | .peq neg, [.ref l i v o, .ref l' i' v' o'] => if l = l' ∧ i = i' ∧ o = o' ∧ v = v' ∧ (cells? σ l i v).isSome then some (.bool (!neg), σ) else none
  | _, _ => none

def room : Nat := 2 ^ 46

def nilbs : List (Nat × Nat) → List D → Stack → Option (List D × Stack)
  | [], cs, σ => some (cs, σ)
  | (p, w) :: r, cs, σ =>
    match cs[p]? with
    | some .nils => do
      let (l, i, σ') ← newBlk σ (.cells 0 [])
      nilbs r (cs.set p (.sl l i 0 0 0 w)) σ'
    | _ => nilbs r cs σ

def inVar (e : Env) (v a : Nat) : Option (Nat × List D × Nat) :=
  match get e v with
  | .own s cs =>
    if a = v then some (s, cs, 0) else
    match get e a with
    | .vr x s' off => if x = v ∧ s' = s then some (s, cs, off) else none
    | _ => none
  | _ => none

def stamp (e : Env) (v : Nat) : Nat :=
  match get e v with
  | .own s _ => s + 1
  | _ => 0

def rdD (σ : Stack) : D → Option (List D)
  | .cref cs => some cs
  | .ref l i v off => (cells? σ l i v).map (·.drop off)
  | _ => none

def rd0 (σ : Stack) : D → Option (List D)
  | .ref l i 0 off => rdD σ (.ref l i 0 off)
  | _ => none

def isnD (ps : Bool) (d : D) : Option Bool :=
  match ps, d with
  | true, .nilp => some true
  | true, .cref _ => some false
  | true, .ref .. => some false
  | false, .nils => some true
  | false, .lst n _ => if n = 0 then none else some false
  | false, .sl _ _ _ _ n _ => if n = 0 then none else some false
  | _, _ => none

def tasD (t : Nat) (z : Option D) : D → Option D
  | .ifc t' d => match z with
    | some z => some (if t' = t then .tup [d, .bool true] else .tup [z, .bool false])
    | none => if t' = t then some d else none
  | .nili => z.map fun z => .tup [z, .bool false]
  | _ => none
def isiD : D → Option Bool
  | .nili => some true
  | .ifc .. => some false
  | _ => none

def D.off (l i : Nat) : D → Bool
  | .ref l' i' _ _ => decide (¬ (l' = l ∧ i' = i))
  | _ => true

def appD (e : Env) (σ : Stack) (w bytes : Nat) (s x : Opd) : Option (D × Stack) := do
    let (m, xs) ← elems σ w (opd e x)
    match opd e s with
    | .nils =>
      if m * bytes ≤ room then
        if m = 0 then some (.lst 0 [], σ) else do
        let (l, i, σ') ← newBlk σ (.cells 0 xs)
        some (.sl l i 0 0 m w, σ')
      else none
    | .sl l i v off n w' =>
      match cells? σ l i v with
      | some cs =>
        if w' = w ∧ off + n * w ≤ cs.length ∧ (n + m) * bytes ≤ room then
          if l + 1 = σ.length then
            some (.sl l i (v + 1) 0 (n + m) w, setBlk σ l i (.cells (v + 1) ((cs.drop off).take (n * w) ++ xs)))
          else
            let r := frz.frzL (frz l deep) xs σ
            some (.sl l i (v + 1) 0 (n + m) w, setBlk r.2 l i (.cells (v + 1) ((cs.drop off).take (n * w) ++ r.1)))
        else none
      | none => none
    | _ => none

def sop (e : Env) (σ : Stack) : K → Option (D × Stack)
  | .mv x => some (opd e x, σ)
  | .nilb w => do
    let (l, i, σ') ← newBlk σ (.cells 0 [])
    some (.sl l i 0 0 0 w, σ')
  | .pick c a b =>
    match opd e c with
    | .bool t => some (if t then opd e a else opd e b, σ)
    | _ => none
  | .alc nb cs => do
    let (cs', σ1) ← nilbs nb cs σ
    let (l, i, σ') ← newBlk σ1 (.cells 0 cs')
    some (.ref l i 0 0, σ')
  | .boxi x => (opd e x).cells.map fun cs => (.cref cs, σ)
  | .boxm x => do
    let cs ← (opd e x).cells
    let (l, i, σ') ← newBlk σ (.cells 0 cs)
    some (.ref l i 0 0, σ')
  | .bxn nb x => do
    let cs ← (opd e x).cells
    let (cs', σ1) ← nilbs nb cs σ
    let (l, i, σ') ← newBlk σ1 (.cells 0 cs')
    some (.ref l i 0 0, σ')
  | .alcv .. => none
  | .boxv _ => none
  | .stv .. => none
  | .ldv v ag sz a =>
    match inVar e v a with
    | some (_, cs, off) =>
      let cs := cs.drop off
      if sz ≤ cs.length then
        if ag then some (.agg (cs.take sz), σ) else
        match cs with
        | d :: _ => some (d, σ)
        | [] => none
      else none
    | none => none
  | .bld zero parts => do
    let cs ← fillD e parts zero
    some (.agg cs, σ)
  | .bsi n _ zero parts => do
    let cs ← fillD e parts zero
    some (.lst n cs, σ)
  | .bsm n w zero parts => do
    let cs ← fillD e parts zero
    let (l, i, σ') ← newBlk σ (.cells 0 cs)
    some (.sl l i 0 0 n w, σ')
  | .ld ag sz a =>
    match rdD σ (opd e a) with
    | some cs =>
      if sz ≤ cs.length then
        if ag then some (.agg (cs.take sz), σ) else
        match cs with
        | d :: _ => some (d, σ)
        | [] => none
      else none
    | none => none
  | .ld0 ag sz a =>
    match rd0 σ (opd e a) with
    | some cs =>
      if sz ≤ cs.length then
        if ag then some (.agg (cs.take sz), σ) else
        match cs with
        | d :: _ => some (d, σ)
        | [] => none
      else none
    | none => none
  | .ldi ag sz a =>
    match opd e a with
    | .cref cs =>
      if sz ≤ cs.length then
        if ag then some (.agg (cs.take sz), σ) else
        match cs with
        | d :: _ => some (d, σ)
        | [] => none
      else none
    | _ => none
  | .isn ps neg x => (isnD ps (opd e x)).map fun b => (.bool (if neg then !b else b), σ)
  | .nck x =>
    match opd e x with
    | .cref cs => some (.cref cs, σ)
    | .ref l i v off => some (.ref l i v off, σ)
    | _ => none
  | .st nb sz a x =>
    match opd e a with
    | .ref l i v off =>
      match cells? σ l i v with
      | some cs =>
        match (opd e x).cells with
        | some p =>
          if p.length = sz ∧ off + sz ≤ cs.length then
            if l + 1 = σ.length then
              match nilbs nb p σ with
              | some (p', σ1) => some (.undef, setBlk σ1 l i (.cells v (cs.take off ++ p' ++ cs.drop (off + sz))))
              | none => none
            else
              let r := frz.frzL (frz l deep) p σ
              some (.undef, setBlk r.2 l i (.cells v (cs.take off ++ r.1 ++ cs.drop (off + sz))))
          else none
        | none => none
      | none => none
    | _ => none
  | .stc os sz a x =>
    match opd e a with
    | .ref l i v off =>
      if (os.all fun t => D.off l i (get e t)) = true then
        match cells? σ l i v with
        | some cs =>
          match (opd e x).cells with
          | some p =>
            if p.length = sz ∧ off + sz ≤ cs.length ∧ (D.cleanL p = true ∨ l + 1 = σ.length) then some (.undef, setBlk σ l i (.cells v (cs.take off ++ p ++ cs.drop (off + sz)))) else none
          | none => none
        | none => none
      else none
    | _ => none
  | .bin o x y => (binD o (opd e x) (opd e y)).map (·, σ)
  | .eqv ag ks neg x y =>
    match (opd e x).row ag, (opd e y).row ag with
    | some p, some q => (eqK ks p q).map fun b => (.bool (if neg then !b else b), σ)
    | _, _ => none
  | .un o x =>
    match o, opd e x with
    | .not, .bool b => some (.bool !b, σ)
    | .neg, .int k n => some (.int k (k.wrap (0 - n)), σ)
    | .xor, .int k n => some (.int k (k.wrap ((BitVec.ofInt k.bits (if k.signed then -1 else k.max) ^^^ BitVec.ofInt k.bits n).toNat : Int)), σ)
    | _, _ => none
  | .cvt k x =>
    match opd e x with
    | .int _ n => some (.int k (k.wrap n), σ)
    | _ => none
  | .mkf f first cap => some (.fn f (first.map (opd e)) (cap.map (opd e)), σ)
  | .mks w bytes zero l c =>
    match opd e l, opd e c with
    | .int .i64 n, .int .i64 m =>
      if 0 ≤ n ∧ n = m ∧ n * bytes ≤ (room : Int) ∧ zero.length = w then do
        let (l, i, σ') ← newBlk σ (.cells 0 ((List.range n.toNat).flatMap fun _ => zero))
        some (.sl l i 0 0 n.toNat w, σ')
      else none
    | _, _ => none
  | .slc w x lo hi mx =>
    match opd e x with
    | .lst n cs => (bounds n e lo hi mx).map fun b => (.lst (b.2 - b.1) ((cs.drop (b.1 * w)).take ((b.2 - b.1) * w)), σ)
    | .sl l i v off n w' => if w' = w then (bounds n e lo hi mx).map fun b => (.sl l i v (off + b.1 * w) (b.2 - b.1) w, σ) else none
    | .nils => (bounds 0 e lo hi mx).map fun _ => (.nils, σ)
    | _ => none
  | .slca len w x lo hi =>
    match opd e x with
    | .cref cs => (bounds len e lo hi none).map fun b => (.lst (b.2 - b.1) ((cs.drop (b.1 * w)).take ((b.2 - b.1) * w)), σ)
    | .ref l i v off =>
      match cells? σ l i v with
      | some cs => if len ≤ 1000000 ∧ off + len * w ≤ cs.length then (bounds len e lo hi none).map fun b => (.sl l i v (off + b.1 * w) (b.2 - b.1) w, σ) else none
      | none => none
    | _ => none
  | .fadr off x =>
    match x with
    | .t n =>
      match get e n with
      | .cref cs => some (.cref (cs.drop off), σ)
      | .ref l i v o => some (.ref l i v (o + off), σ)
      | .own s _ => some (.vr n s off, σ)
      | .vr v s o => some (.vr v s (o + off), σ)
      | _ => none
    | .c _ => none
  | .fld ag off sz x =>
    match opd e x with
    | .agg cs =>
      if off + sz ≤ cs.length then
        if ag then some (.agg ((cs.drop off).take sz), σ) else (cs[off]?).map (·, σ)
      else none
    | _ => none
  | .idxA len w x i =>
    match x, intD (opd e i) with
    | .t m, some n =>
      if 0 ≤ n ∧ n < len then
        match get e m with
        | .cref cs => some (.cref ((cs.drop (n.toNat * w)).take w), σ)
        | .ref l j v off => some (.ref l j v (off + n.toNat * w), σ)
        | .own s _ => some (.vr m s (n.toNat * w), σ)
        | .vr v s o => some (.vr v s (o + n.toNat * w), σ)
        | _ => none
      else none
    | _, _ => none
  | .idxS w x i =>
    match opd e x, intD (opd e i) with
    | .lst m cs, some n => if 0 ≤ n ∧ n < m then some (.cref ((cs.drop (n.toNat * w)).take w), σ) else none
    | .sl l j v off m w', some n => if 0 ≤ n ∧ n < m ∧ w' = w then some (.ref l j v (off + n.toNat * w), σ) else none
    | _, _ => none
  | .idxV ag len w x i =>
    match opd e x, intD (opd e i) with
    | .agg cs, some n =>
      if 0 ≤ n ∧ n < len ∧ (n.toNat + 1) * w ≤ cs.length then
        if ag then some (.agg ((cs.drop (n.toNat * w)).take w), σ) else (cs[n.toNat * w]?).map (·, σ)
      else none
    | _, _ => none
  | .lenS x =>
    match opd e x with
    | .nils => some (.int .i64 0, σ)
    | .lst n _ => some (.int .i64 n, σ)
    | .sl _ _ _ _ n _ => some (.int .i64 n, σ)
    | _ => none
  | .lenC n => some (.int .i64 n, σ)
  | .mn x y =>
    match opd e x, opd e y with
    | .int k a, .int _ b => some (.int k (min a b), σ)
    | _, _ => none
  | .mx x y =>
    match opd e x, opd e y with
    | .int k a, .int _ b => some (.int k (max a b), σ)
    | _, _ => none
  | .app w bytes s x => do
    let (m, xs) ← elems σ w (opd e x)
    match opd e s with
    | .nils =>
      if m * bytes ≤ room then
        if m = 0 then some (.lst 0 [], σ) else do
        let (l, i, σ') ← newBlk σ (.cells 0 xs)
        some (.sl l i 0 0 m w, σ')
      else none
    | .sl l i v off n w' =>
      match cells? σ l i v with
      | some cs =>
        if w' = w ∧ off + n * w ≤ cs.length ∧ (n + m) * bytes ≤ room then
          if l + 1 = σ.length then
            some (.sl l i (v + 1) 0 (n + m) w, setBlk σ l i (.cells (v + 1) ((cs.drop off).take (n * w) ++ xs)))
          else
            let r := frz.frzL (frz l deep) xs σ
            some (.sl l i (v + 1) 0 (n + m) w, setBlk r.2 l i (.cells (v + 1) ((cs.drop off).take (n * w) ++ r.1)))
        else none
      | none => none
    | _ => none
  | .apc os w bytes s x =>
    match opd e s with
    | .sl l i _ _ _ _ => if (os.all fun t => D.off l i (get e t)) = true then (elems σ w (opd e x)).bind fun r => if D.cleanL r.2 = true then appD e σ w bytes s x else none else none
    | _ => none
  | .apz w bytes s x => (appD e σ w bytes s x).map fun r => frz 0 deep r.1 r.2
  | .cpi w bytes x => do
    let (m, xs) ← elems σ w (opd e x)
    if m * bytes ≤ room then some (.lst m xs, σ) else none
  | .bse => some (.emp, σ)
  | .ape w bytes v x =>
    match get e v with
    | .emp => (elems σ w (opd e x)).bind fun r => if r.1 * bytes ≤ room then some (.lst r.1 r.2, σ) else none
    | _ => none
  | .ext x i =>
    match opd e x with
    | .tup ds => (ds[i]?).map (·, σ)
    | _ => none
  | .pur o xs => (puD o (xs.map (opd e))).map (·, σ)
  | .mp o xs => mpD σ o (xs.map (opd e))
  | .me o xs => meD σ o (xs.map (opd e))
  | .mki t x => some (.ifc t (opd e x), σ)
  | .tas t z x => (tasD t z (opd e x)).map (·, σ)
  | .isi neg x => (isiD (opd e x)).map fun b => (.bool (if neg then !b else b), σ)
  | .pan _ => none
  | .rcv => none
  | .call _ _ _ => none

def R.vals : Option R → Option (D × Stack)
  | some (.val d σ) => some (d, σ)
  | _ => none

def R.ctls : Option R → Option (Exit × Env × Stack)
  | some (.ctl e env σ) => some (e, env, σ)
  | _ => none

def callv (O : Oracle) (kp : Bool) (fv : D) (args : List D) (σ : Stack) : Option (D × Stack) :=
  match fv with
  | .fn f first cap => R.vals (O (.call kp f (first ++ args ++ cap) σ))
  | .yld l i => R.vals (O (.round l i args σ))
  | _ => none

def callf (O : Oracle) (fv : D) (args : List D) (σ : Stack) : Option (D × Stack) :=
  match fv with
  | .fn f first cap => R.vals (O (.call false f (first ++ args ++ cap) σ))
  | _ => none

def aop (O : Oracle) (op : Op) (e : Env) (σ : Stack) : Option (Env × Stack) :=
  match op.k with
  | .call kp f args =>
    match callv O kp (opd e f) (args.map (opd e)) σ with
    | some (d, σ') => if op.ntr = true → σ' = σ then some (put op.dst d e, σ') else none
    | none => none
  | .alcv nb cs =>
    match op.dst, nilbs nb cs σ with
    | some v, some (cs', σ') => some ((v, .own (stamp e v) cs') :: e, σ')
    | _, _ => none
  | .boxv x =>
    match op.dst, (opd e x).cells with
    | some v, some cs => some ((v, .own (stamp e v) cs) :: e, σ)
    | _, _ => none
  | .stv v nb sz a x =>
    match inVar e v a, (opd e x).cells with
    | some (s, cs, off), some p =>
      if p.length = sz ∧ off + sz ≤ cs.length then
        match nilbs nb p σ with
        | some (p', σ') => some ((v, .own s (cs.take off ++ p' ++ cs.drop (off + sz))) :: e, σ')
        | none => none
      else none
    | _, _ => none
  | k => (sop e σ k).map fun x => (put op.dst x.1 e, x.2)

def D.bit : D → Option (Option Bool)
  | .bool b => some (some b)
  | .tup [] => some none
  | _ => none

def aops (O : Oracle) : List Op → Env → Stack → Option (Env × Stack)
  | [], e, σ => some (e, σ)
  | op :: r, e, σ =>
    match op.grd with
    | none => (aop O op e σ).bind fun x => aops O r x.1 x.2
    | some (g, want) =>
      match (get e g).bit with
      | some y => if y = some want then (aop O op e σ).bind fun x => aops O r x.1 x.2 else aops O r (put op.dst (.tup []) e) σ
      | none => none

def D.blur : D → D
  | .nils => .lst 0 []
  | d => d

def frzR (l i u : Nat) (σ : Stack) : D × Stack :=
  match cells? σ l i u with
  | some cs => let r := frz.frzL (frz 0 deep) cs (setBlk σ l i .dead); (.cref (r.1.map D.blur), r.2)
  | none => (.undef, σ)
def frzV (v : Nat) (e : Env) (σ : Stack) : Env × Stack :=
  match get e v with
  | .nils => ((v, .lst 0 []) :: e, σ)
  | .ref l i u 0 => let r := frzR l i u σ; ((v, r.1) :: e, r.2)
  | .own s cs => ((v, .own s (cs.map D.blur)) :: e, σ)
  | _ => (e, σ)

def frzs : List Nat → Env → Stack → Env × Stack
  | [], e, σ => (e, σ)
  | v :: vs, e, σ =>
    match get e v with
    | .sl l i u off m w => let r := frz 0 deep (.sl l i u off m w) σ; frzs vs ((v, r.1) :: e) r.2
    | .own s cs => let r := frz.frzL (frz 0 deep) cs σ; frzs vs ((v, .own s r.1) :: e) r.2
    | .agg cs => frzs vs ((v, .agg (cs.map D.blur)) :: e) σ
    | .undef => if 1000000 ≤ v then (let r := frzV (v - 1000000) e σ; frzs vs r.1 r.2) else frzs vs e σ
    | _ => frzs vs e σ

def callr (O : Oracle) (fv : D) (args : List D) (σ : Stack) : Option R :=
  match fv with
  | .fn f first cap => O (.call false f (first ++ args ++ cap) σ)
  | _ => none

def aoptR (O : Oracle) (live : List Nat) (dst : Option Nat) (post : List Op) (e : Env) : Option R → Option (Exit × Env × Stack)
  | some (.val d σ') => (aops O post (put dst d e) σ').map fun y => (.normal, restrict live y.1, y.2)
  | some (.thr d σ') => some (.thr d, e, σ')
  | _ => none

def aopt (O : Oracle) (live : List Nat) (op : Op) (post : List Op) (e : Env) (σ : Stack) : Option (Exit × Env × Stack) :=
  match op.grd, op.k with
  | none, .call false f args => aoptR O live op.dst post e (callr O (opd e f) (args.map (opd e)) σ)
  | none, .pan x => (match opd e x with
    | .ifc t d => if d.clean then some (.thr (.ifc t d), e, σ) else none
    | _ => none)
  | _, _ => none

def acode (O : Oracle) : Cmd → Env → Stack → Option (Exit × Env × Stack)
  | .nop, e, σ => some (.normal, e, σ)
  | .frz vs, e, σ => let r := frzs vs e σ; some (.normal, r.1, r.2)
  | .reg live ops, e, σ => (aops O ops e σ).map fun x => (.normal, restrict live x.1, x.2)
  | .seq a b, e, σ => (acode O a e σ).bind fun x =>
    match x.1 with
    | .normal => acode O b x.2.1 x.2.2
    | _ => some x
  | .ite c a b, e, σ =>
    match opd e c with
    | .bool t => if t then acode O a e σ else acode O b e σ
    | _ => none
  | .blk id a, e, σ => (acode O a e σ).map fun x =>
    match x.1 with
    | .exit j => if j = id then (.normal, x.2) else x
    | _ => x
  | .loop live seg a, e, σ => R.ctls (O (.loop live seg a e σ))
  | .rngf live f params asg body, e, σ =>
    match newBlk σ (.loop { state := 0, pend := none, env := strips live e, params, asg, body }) with
    | some (l, i, σ1) =>
      match callf O (opd e f) [.yld l i] σ1 with
      | some (_, σ2) =>
        match blk? σ2 l i with
        | some (.loop lp) =>
          if lp.state = 1 then none else
          some (lp.pend.getD .normal, restrict live e, setBlk σ2 l i (.loop { lp with state := 3 }))
        | _ => none
      | none => none
    | none => none
  | .mloop live it nx ok b a rest, e, σ => R.ctls (O (.mloop live it nx ok b a rest e σ))
  | .treg live pre op post, e, σ => (aops O pre e σ).bind fun x => aopt O live op post x.1 x.2
  | .dfr .., _, _ => none
  | .exit id, e, σ => some (.exit id, e, σ)
  | .ret, e, σ => some (.ret, e, σ)

inductive Res where
  | t (n : Nat)
  | c (n : Nat) (ag : Bool) (sz : Nat)
  | v (n : Nat) (ag : Bool) (sz : Nat)

structure Fn where
  npar : Nat
  res : List Res
  body : Cmd

def resD (e : Env) (σ : Stack) : Res → Option D
  | .t n => some (get e n).strip
  | .c n ag sz => (sop e σ (.ld ag sz (.t n))).map (·.1)
  | .v n ag sz => (sop e σ (.ldv n ag sz n)).map (·.1)

def resL (e : Env) (σ : Stack) : List Res → Option (List D)
  | [] => some []
  | r :: rs => (resD e σ r).bind fun d => (resL e σ rs).map fun ds => d :: ds

def mkRes : List D → D
  | [d] => d
  | ds => .tup ds

def mkEnv (n : Nat) : List D → Env
  | [] => []
  | d :: ds => (n, d) :: mkEnv (n + 1) ds

def putAll : List Nat → List D → Env → Env
  | t :: ts, d :: ds, e => putAll ts ds ((t, d) :: e)
  | _, _, e => e

abbrev Tbl := Nat → Option Fn


def intsOf : List D → Option (List Int)
  | [] => some []
  | .int .i64 z :: r => (intsOf r).map (z :: ·)
  | _ => none
def insI (x : Int) : List Int → List Int
  | [] => [x]
  | y :: l => if x ≤ y then x :: y :: l else y :: insI x l
def sortI : List Int → List Int
  | [] => []
  | x :: l => insI x (sortI l)
def intCells (l : List Int) : List D := l.map (.int .i64)
def compT (x : Int) : List Int → List Int
  | [] => []
  | y :: l => if y = x then compT x l else y :: compT y l
def compI : List Int → List Int
  | [] => []
  | x :: l => x :: compT x l
def natRow (k : Nat) (zs : List Int) : List Int := if k = 1 then sortI zs else compI zs ++ List.replicate (zs.length - (compI zs).length) 0
def natRes (k l i v off : Nat) (zs : List Int) : D := if k = 1 then .tup [] else .sl l i v off (compI zs).length 1
def natR (k : Nat) (args : List D) (σ : Stack) : Option R :=
  match args with
  | [.sl l i v off n w] =>
    if n ≠ 0 ∧ w = 1 ∧ n ≤ 1000000 then
      match cells? σ l i v with
      | some cs =>
        if off + n ≤ cs.length then
          match intsOf ((cs.drop off).take n) with
          | some zs => some (.val (natRes k l i v off zs) (setBlk σ l i (.cells v (cs.take off ++ intCells (natRow k zs) ++ cs.drop (off + n)))))
          | none => none
        else none
      | none => none
    else none
  | _ => none

def decF : Nat → Nat → List UInt8
  | 0, _ => []
  | k + 1, u => if u < 10 then [UInt8.ofNat (48 + u)] else decF k (u / 10) ++ [UInt8.ofNat (48 + u % 10)]
def itoaF (n : Int) : List UInt8 := if n < 0 then 45 :: decF 20 n.natAbs else decF 20 n.toNat
def strsOf : List D → Option (List (List UInt8))
  | [] => some []
  | .str s :: r => (strsOf r).map (s :: ·)
  | _ => none
def joinF (sep : List UInt8) : List (List UInt8) → List UInt8
  | [] => []
  | x :: r => x ++ r.flatMap (sep ++ ·)
def splitF (b : UInt8) : List UInt8 → List (List UInt8)
  | [] => [[]]
  | c :: r => if c = b then [] :: splitF b r else match splitF b r with
    | x :: l => (c :: x) :: l
    | [] => [[c]]
def atoiF (s : List UInt8) : Nat × Int :=
  match Lib.atoiAll s with
  | .ok v => (0, v)
  | Lib.NumEnd.syntax => (1, 0)
  | .range => (2, Lib.atoiSat s)
def delF (a b : Nat) (xs : List (List UInt8)) : List (List UInt8) := xs.take a ++ xs.drop b ++ List.replicate (b - a) []
def natQ (k : Nat) (args : List D) (σ : Stack) : Option R :=
  match k % 16, args with
  | 3, [.int .i64 n] => if -9223372036854775808 ≤ n ∧ n ≤ 9223372036854775807 then some (.val (.str (itoaF n)) σ) else none
  | 4, [.str s] => if s.length ≤ 1000000 then some (.val (.tup [.int .i64 (atoiF s).2, if (atoiF s).1 = 0 then .nili else .ifc (k / 16) .undef]) σ) else none
  | 5, [.lst n cs, .str sep] =>
    match strsOf cs with
    | some xs => if n = xs.length ∧ n ≤ 1000 ∧ (joinF sep xs).length ≤ 1000000 then some (.val (.str (joinF sep xs)) σ) else none
    | none => none
  | 6, [.str s, .str [b]] => if s.length ≤ 1000000 then some (.val (.lst (splitF b s).length ((splitF b s).map .str)) σ) else none
  | 7, [.yld l i, .str s] =>
    match cells? σ l i 2 with
    | some [.int .i64 t, .int .i64 e, .str bs] =>
      if t = ((k / 16 % 65536 : Nat) : Int) ∧ e = ((k / 16 / 65536 : Nat) : Int) ∧ bs.length + s.length ≤ 1000000 then
        some (.val (.tup [.int .i64 s.length, .nili]) (setBlk σ l i (.cells 2 [.int .i64 t, .int .i64 e, .str (bs ++ s)])))
      else none
    | _ => none
  | 8, [.yld l i] =>
    match cells? σ l i 2 with
    | some [.int .i64 t, .int .i64 e, .str bs] => if t = ((k / 16 % 65536 : Nat) : Int) ∧ e = ((k / 16 / 65536 : Nat) : Int) ∧ bs ≠ [] then some (.val (.str bs) σ) else none
    | _ => none
  | 9, [.sl l i v off n w, .int .i64 a, .int .i64 b] =>
    if n ≠ 0 ∧ w = 1 ∧ n ≤ 1000000 ∧ 0 ≤ a ∧ a ≤ b ∧ b ≤ (n : Int) then
      match cells? σ l i v with
      | some cs =>
        if off + n ≤ cs.length then
          match strsOf ((cs.drop off).take n) with
          | some xs => some (.val (.sl l i v off (n - (b.toNat - a.toNat)) 1) (setBlk σ l i (.cells v (cs.take off ++ (delF a.toNat b.toNat xs).map .str ++ cs.drop (off + n)))))
          | none => none
        else none
      | none => none
    else none
  | 0, _ => none
  | 9, _ => none
  | 10, _ => none
  | 11, _ => none
  | 12, _ => none
  | 13, _ => none
  | 14, _ => none
  | 15, _ => none
  | 1, args => natR 1 args σ
  | 2, args => natR 2 args σ
  | _, _ => none

def iterD (σ : Stack) (l i : Nat) : Option (D × Nat × List D × List Nat) :=
  match cells? σ l i 1 with
  | some (m :: .int .i64 n :: js) =>
    match mapD σ m with
    | some (_, _, es) => if (es.length : Int) = n then some (m, es.length, js, (List.range es.length).filter fun j => !(js.contains (.int .i64 j))) else none
    | none => none
  | _ => none

def agree : List (Option R) → Option R
  | [] => none
  | r :: rs => if ∀ x ∈ rs, x = r then r else none

def mend (O : Oracle) (l i b : Nat) (rest : Cmd) : Option (Exit × Env × Stack) → Option R
  | some (.exit j, e1, σ1) =>
    if j = b then (acode O rest e1 (setBlk σ1 l i .dead)).map fun x => .ctl x.1 x.2.1 x.2.2
    else some (.ctl (.exit j) e1 (setBlk σ1 l i .dead))
  | some (.ret, e1, σ1) => some (.ctl .ret e1 (setBlk σ1 l i .dead))
  | _ => none
def mnext (O : Oracle) (live : List Nat) (it : Opd) (l i nx ok b : Nat) (c rest : Cmd) : Option (Exit × Env × Stack) → Option R
  | some (.normal, e1, σ1) => O (.mloop live it nx ok b c rest e1 σ1)
  | y => mend O l i b rest y

def splitT : Cmd → Option (Cmd × Opd × List Opd × Cmd)
  | .dfr f args q => some (.nop, f, args, q)
  | .seq a b => (splitT b).map fun x => (.seq a x.1, x.2)
  | _ => none

def thrown (kp : Bool) (d : D) : Stack → Option R
  | _ :: σ => if kp = false ∧ d.clean = true then some (.thr d σ) else none
  | [] => none

def leave (res : List Res) (σ : Stack) (e : Env) (σ1 : Stack) : Option R :=
  match resL e σ1 res with
  | some ds => (match frz (σ.length - 1) deep (mkRes ds) σ1 with
    | (d, _ :: σ2) => some (.val d σ2)
    | _ => none)
  | none => none

def dcallR (O : Oracle) (fv : D) (args : List D) (th : Option D) (σ : Stack) : Option R :=
  match fv with
  | .fn f first cap => O (.dcall f (first ++ args ++ cap) th σ)
  | _ => none

def dleave (res : List Res) (σ : Stack) (e : Env) : Option R → Option R
  | some (.val _ σ1) => leave res σ e σ1
  | _ => none

def dtail (O : Oracle) (res : List Res) (σ : Stack) (fv : D) (args : List D) : Option (Exit × Env × Stack) → Option R
  | some (.thr d, e, σ1) => dleave res σ e (dcallR O fv args (some d) σ1)
  | some (.normal, e, σ1) => dleave res σ e (dcallR O fv args none σ1)
  | some (.ret, e, σ1) => dleave res σ e (dcallR O fv args none σ1)
  | _ => none

def dbody (O : Oracle) (fn : Fn) (σ : Stack) : Option (Cmd × Opd × List Opd × Cmd) → Env → Stack → Option R
  | some (a, f, args, q), e0, σ0 =>
    (match acode O a e0 σ0 with
    | some (.normal, e, σ1) => dtail O fn.res σ (opd e f) (args.map (opd e)) (acode O q e σ1)
    | _ => none)
  | none, _, _ => none

def afterRcv (th : Option D) (args : List D) : Cmd → Option (Env × Cmd)
  | .seq (.reg live [⟨some t, none, _, .rcv⟩]) q => (match q with
    | .mloop .. => none
    | q => some (restrict live ((t, th.getD .nili) :: mkEnv 0 args), q))
  | _ => none

def stepQ (T : Tbl) (O : Oracle) : Q → Option R
  | .call kp f args σ =>
    match T f with
    | some fn =>
      if args.length = fn.npar then
        match acode O fn.body (mkEnv 0 args) (if kp then σ else [] :: σ) with
        | some (.exit _, _, _) => none
        | some (.thr d, _, σ1) => thrown kp d σ1
        | some (_, e, σ1) =>
          match resL e σ1 fn.res with
          | some ds =>
            if kp then some (.val (mkRes ds) σ1) else
            match frz (σ.length - 1) deep (mkRes ds) σ1 with
            | (d, _ :: σ2) => some (.val d σ2)
            | _ => none
          | none => none
        | none => if kp then none else dbody O fn σ (splitT fn.body) (mkEnv 0 args) ([] :: σ)
      else none
    | none =>
      match T (1000000 + f) with
      | some fn => natQ fn.npar args σ
      | none => none
  | .loop live seg c e σ =>
    match acode O c (restrict live e) (if seg then [] :: σ else σ) with
    | some (x, e1, σ1) =>
      let (e2, σ2) := if seg then (let r := frzE (σ.length - 1) (restrict (liveAt live x e1) e1) σ1; (r.1, r.2.tail)) else (e1, σ1)
      match x with
      | .normal => O (.loop live seg c e2 σ2)
      | x => some (.ctl x e2 σ2)
    | none => none
  | .round l i args σ =>
    match blk? σ l i with
    | some (.loop lp) =>
      if args.length = lp.params.length then
        match acode O lp.asg (putAll lp.params args lp.env) ([] :: σ) with
        | some (.normal, e1, σ1) =>
          match blk? σ1 l i with
          | some (.loop lp1) =>
            if lp1.state = 0 then
              match acode O lp.body e1 (setBlk σ1 l i (.loop { lp1 with state := 1 })) with
              | some (x, _, _ :: σ2) =>
                match blk? σ2 l i with
                | some (.loop lp2) =>
                  match x with
                  | .thr _ => none
                  | .normal => some (.val (.bool true) (setBlk σ2 l i (.loop { lp2 with state := 0, pend := none })))
                  | x => some (.val (.bool false) (setBlk σ2 l i (.loop { lp2 with state := 2, pend := some x })))
                | _ => none
              | _ => none
            else none
          | _ => none
        | _ => none
      else none
    | _ => none
  | .mloop live it nx ok b c rest e σ =>
    match opd (restrict live e) it with
    | .yld l i =>
      match iterD σ l i with
      | some (_, _, _, []) => mend O l i b rest (acode O c ((ok, .bool false) :: (nx, .undef) :: restrict live e) σ)
      | some (m, n, js, us) => agree (us.map fun u => mnext O live it l i nx ok b c rest (acode O c ((ok, .bool true) :: (nx, .undef) :: restrict live e) (setBlk σ l i (.cells 1 (m :: .int .i64 (n : Nat) :: .int .i64 (u : Nat) :: js)))))
      | none => none
    | _ => none
  | .dcall f args th σ =>
    match T f with
    | some fn =>
      if args.length = fn.npar then
        match afterRcv th args fn.body with
        | some (e0, q) =>
          match acode O q e0 ([] :: σ) with
          | some (.exit _, _, _) => none
          | some (.thr _, _, _) => none
          | some (_, e, σ1) =>
            match resL e σ1 fn.res, σ1 with
            | some [], _ :: σ2 => some (.val (.tup []) σ2)
            | _, _ => none
          | none => none
        | none => none
      else none
    | none => none

def it (T : Tbl) : Nat → Oracle
  | 0 => fun _ => none
  | n + 1 => stepQ T (it T n)

open Classical in
noncomputable def lim (T : Tbl) : Oracle := fun q =>
  if h : ∃ n r, it T n q = some r then some h.choose_spec.choose else none

end Go.Abs

/-
  What a value as data has to do with a value of the model: the relation, the invariant of the memory, how both go on.
-/
namespace Go.Abs
open Go

inductive Loc where
  | dead
  | virt (v : Nat)
  | at (blk off v sz : Nat)
  | lp (blk : Nat)
  | mp (blk : Nat)
  | it (blk : Nat)
  | ob (blk : Nat) (buf : Option Nat)

def Loc.okv : Loc → Nat → Prop
  | .dead, _ => True
  | .virt v', v => v ≤ v'
  | .at _ _ v' _, v => v ≤ v'
  | .lp _, _ => False
  | .mp _, _ => False
  | .it _, _ => False
  | .ob .., _ => False

def Loc.owns : Loc → Nat → Prop
  | .at b _ _ _, x => b = x
  | .lp b, x => b = x
  | .mp b, x => b = x
  | .it b, x => b = x
  | .ob b c, x => b = x ∨ c = some x
  | _, _ => False

structure G where
  loc : Nat → Nat → Option Loc
  imm : Nat → Nat → Option Value

def G.row (g : G) (b o : Nat) (vs : List Value) : Prop := ∀ j v, vs[j]? = some v → g.imm b (o + j) = some v

mutual
inductive RelV (g : G) : D → Value → Prop
  | undef (c : Value) : RelV g .undef c
  | bool (b : Bool) : RelV g (.bool b) (.bool b)
  | int (k : IntKind) (n : Int) : RelV g (.int k n) (.int k n)
  | str (s : ByteArray) : RelV g (.str s.data.toList) (.string s)
  | agg (ds : List D) (cs : Array Value) : RelL g ds cs.toList → (∀ c ∈ cs.toList, c.oneCell' = true) → RelV g (.agg ds) (.agg cs)
  | tup (ds : List D) (cs : Array Value) : RelL g ds cs.toList → RelV g (.tup ds) (.tuple cs)
  | nilp : RelV g .nilp (.pointer none)
  | ref (l i v off b o : Nat) (L : Loc) : g.loc l i = some L → L.okv v →
      (∀ blk bo sz, L = .at blk bo v sz → b = blk ∧ o = bo + off) → L ≠ .virt v → RelV g (.ref l i v off) (.pointer (some ⟨b, o, none⟩))
  | cref (ds : List D) (b o : Nat) (vs : List Value) : g.row b o vs → RelL g ds vs → RelV g (.cref ds) (.pointer (some ⟨b, o, none⟩))
  | nils : RelV g .nils (.slice none 0 0)
  | lstn : RelV g (.lst 0 []) (.slice none 0 0)
  | lst (n : Nat) (ds : List D) (a : Addr) (cap : Nat) (vs : List Value) : n ≤ cap → g.row a.block a.off vs → (n ≠ 0 → a.spot = none) → RelL g ds vs →
      RelV g (.lst n ds) (.slice (some a) n cap)
  | sl (l i v off n w : Nat) (a : Option Addr) (cap : Nat) (L : Loc) : g.loc l i = some L → L.okv v → (n ≤ cap ∧ cap < 9223372036854775808) → (a = none → cap = 0) → (∀ x, a = some x → n ≠ 0 → x.spot = none) →
      (∀ blk bo sz, L = .at blk bo v sz → (a = some ⟨blk, bo + off, none⟩ ∧ bo + off + cap * w ≤ sz) ∨ cap = 0) →
      (L = .virt v → a = none) → RelV g (.sl l i v off n w) (.slice a n cap)
  | fn (f : Nat) (fs cs : List D) (fs' cs' : Array Value) : RelL g fs fs'.toList → RelL g cs cs'.toList → RelV g (.fn f fs cs) (.func (.func f) fs' cs')
  | nilf : RelV g .nilf .nilFunc
  | yld (l i b : Nat) : g.loc l i = some (.lp b) → RelV g (.yld l i) (.func (.yield b) #[] #[])
  | mpv (l i b : Nat) : g.loc l i = some (.mp b) → RelV g (.yld l i) (.map (some b))
  | itv (l i b : Nat) (L : Loc) : g.loc l i = some L → (L = .it b ∨ L = .dead) → RelV g (.yld l i) (.pointer (some ⟨b, 0, none⟩))
  | bdv (l i b : Nat) (L : Loc) : g.loc l i = some L → ((∃ c, L = .ob b c) ∨ L = .dead) → RelV g (.yld l i) (.pointer (some ⟨b, 0, none⟩))
  | ifc (t : Nat) (d : D) (c : Value) : RelV g d c → RelV g (.ifc t d) (.iface t c)
  | nili : RelV g .nili .nilIface
inductive RelL (g : G) : List D → List Value → Prop
  | nil : RelL g [] []
  | cons (d : D) (c : Value) (ds : List D) (cs : List Value) : RelV g d c → RelL g ds cs → RelL g (d :: ds) (c :: cs)
end

def Loc.le : Loc → Loc → Prop
  | .dead, L => L = .dead
  | .lp b, L => L = .lp b
  | .mp b, L => L = .mp b
  | .it b, L => L = .it b ∨ L = .dead
  | .ob b _, L => (∃ c, L = .ob b c) ∨ L = .dead
  | .virt v, L => L = .virt v ∨ L = .dead ∨ (∃ b o v' s, L = .at b o v' s ∧ v < v') ∨ ∃ v', L = .virt v' ∧ v < v'
  | .at b o v s, L => L = .at b o v s ∨ L = .dead ∨ ∃ b' o' v' s', L = .at b' o' v' s' ∧ v < v'

theorem Loc.le_refl (L : Loc) : L.le L := by cases L <;> simp [Loc.le]

theorem Loc.le_trans {a b c : Loc} (h : a.le b) (h' : b.le c) : a.le c := by
  cases a with
  | dead => simp only [Loc.le] at h; subst h; exact h'
  | lp x => simp only [Loc.le] at h; subst h; exact h'
  | mp x => simp only [Loc.le] at h; subst h; exact h'
  | it x =>
    simp only [Loc.le] at h
    rcases h with rfl | rfl
    · exact h'
    · simp only [Loc.le] at h' ⊢; exact .inr h'
  | ob x y =>
    simp only [Loc.le] at h
    rcases h with ⟨c, rfl⟩ | rfl
    · exact h'
    · simp only [Loc.le] at h' ⊢; exact .inr h'
  | virt v =>
    simp only [Loc.le] at h
    rcases h with rfl | rfl | ⟨b1, o, v', s, rfl, hv⟩ | ⟨v', rfl, hv⟩
    · exact h'
    · simp only [Loc.le] at h' ⊢; exact .inr (.inl h')
    · simp only [Loc.le] at h' ⊢
      rcases h' with rfl | rfl | ⟨b2, o2, v2, s2, rfl, hv2⟩
      · exact .inr (.inr (.inl ⟨_, _, _, _, rfl, hv⟩))
      · exact .inr (.inl rfl)
      · exact .inr (.inr (.inl ⟨_, _, _, _, rfl, by omega⟩))
    · simp only [Loc.le] at h' ⊢
      rcases h' with rfl | rfl | ⟨b2, o2, v2, s2, rfl, hv2⟩ | ⟨v2, rfl, hv2⟩
      · exact .inr (.inr (.inr ⟨_, rfl, hv⟩))
      · exact .inr (.inl rfl)
      · exact .inr (.inr (.inl ⟨_, _, _, _, rfl, by omega⟩))
      · exact .inr (.inr (.inr ⟨_, rfl, by omega⟩))
  | «at» b1 o v s =>
    simp only [Loc.le] at h
    rcases h with rfl | rfl | ⟨b2, o2, v2, s2, rfl, hv⟩
    · exact h'
    · simp only [Loc.le] at h' ⊢; exact .inr (.inl h')
    · simp only [Loc.le] at h' ⊢
      rcases h' with rfl | rfl | ⟨b3, o3, v3, s3, rfl, hv3⟩
      · exact .inr (.inr ⟨_, _, _, _, rfl, hv⟩)
      · exact .inr (.inl rfl)
      · exact .inr (.inr ⟨_, _, _, _, rfl, by omega⟩)

theorem Loc.okv_le {L L' : Loc} {v : Nat} (h : L.okv v) (h' : L.le L') : L'.okv v := by
  cases L with
  | dead => simp only [Loc.le] at h'; subst h'; trivial
  | lp b => exact h.elim
  | mp b => exact h.elim
  | it b => exact h.elim
  | ob b c => exact h.elim
  | virt v' =>
    simp only [Loc.le] at h'; simp only [Loc.okv] at h
    rcases h' with rfl | rfl | ⟨b, o, v', s, rfl, hv⟩ | ⟨v', rfl, hv⟩ <;> simp only [Loc.okv] <;> omega
  | «at» b o v' s =>
    simp only [Loc.le] at h'; simp only [Loc.okv] at h
    rcases h' with rfl | rfl | ⟨b', o', v'', s', rfl, hv⟩ <;> simp only [Loc.okv] <;> omega

structure G.le (g g' : G) : Prop where
  loc : ∀ l i L, g.loc l i = some L → ∃ L', g'.loc l i = some L' ∧ L.le L'
  imm : ∀ b o v, g.imm b o = some v → g'.imm b o = some v

theorem G.le_refl (g : G) : g.le g := ⟨fun _ _ L h => ⟨L, h, L.le_refl⟩, fun _ _ _ h => h⟩

theorem G.le_trans {a b c : G} (h : a.le b) (h' : b.le c) : a.le c :=
  ⟨fun l i L e => let ⟨L1, e1, h1⟩ := h.loc l i L e; let ⟨L2, e2, h2⟩ := h'.loc l i L1 e1; ⟨L2, e2, Loc.le_trans h1 h2⟩,
   fun x o v e => h'.imm x o v (h.imm x o v e)⟩

theorem G.row_le {g g' : G} (h : g.le g') {b o : Nat} {vs : List Value} (hr : g.row b o vs) : g'.row b o vs := fun j v e => h.imm _ _ _ (hr j v e)

theorem Loc.back {L L' : Loc} {v : Nat} (h : L.okv v) (h' : L.le L') {b o s : Nat} (e : L' = .at b o v s) : L = .at b o v s := by
  subst e
  cases L with
  | dead => simp [Loc.le] at h'
  | lp b => simp [Loc.le] at h'
  | mp b => simp [Loc.le] at h'
  | it b => simp [Loc.le] at h'
  | ob b c => simp [Loc.le] at h'
  | virt v' =>
    simp only [Loc.le] at h'; simp only [Loc.okv] at h
    rcases h' with h' | h' | ⟨b, o, v', s, h', hv⟩ | ⟨v', h', hv⟩ <;> simp_all
    omega
  | «at» b o v' s =>
    simp only [Loc.le] at h'; simp only [Loc.okv] at h
    rcases h' with h' | h' | ⟨b', o', v'', s', h', hv⟩ <;> simp_all
    omega

theorem Loc.back_virt {L L' : Loc} {v : Nat} (h : L.okv v) (h' : L.le L') (e : L' = .virt v) : L = .virt v := by
  subst e
  cases L with
  | dead => simp [Loc.le] at h'
  | lp b => simp [Loc.le] at h'
  | mp b => simp [Loc.le] at h'
  | it b => simp [Loc.le] at h'
  | ob b c => simp [Loc.le] at h'
  | virt v' =>
    simp only [Loc.le] at h'; simp only [Loc.okv] at h
    rcases h' with h' | h' | ⟨b, o, v', s, h', hv⟩ | ⟨v', h', hv⟩ <;> simp_all
    omega
  | «at» b o v' s => simp [Loc.le] at h'

mutual
theorem RelV.mono {g g' : G} (h : g.le g') : ∀ {d : D} {c : Value}, RelV g d c → RelV g' d c
  | _, _, .undef c => .undef c
  | _, _, .bool b => .bool b
  | _, _, .int k n => .int k n
  | _, _, .str s => .str s
  | _, _, .agg ds cs hr h1 => .agg ds cs (RelL.mono h hr) h1
  | _, _, .tup ds cs hr => .tup ds cs (RelL.mono h hr)
  | _, _, .nilp => .nilp
  | _, _, .ref l i v off b o L e hv hc hn =>
    let ⟨L', e', hl⟩ := h.loc l i L e
    .ref l i v off b o L' e' (Loc.okv_le hv hl) (fun blk bo sz eq => hc blk bo sz (Loc.back hv hl eq)) (fun eq => hn (Loc.back_virt hv hl eq))
  | _, _, .cref ds b o vs hr hl => .cref ds b o vs (G.row_le h hr) (RelL.mono h hl)
  | _, _, .nils => .nils
  | _, _, .lstn => .lstn
  | _, _, .lst n ds a cap vs hn hr hs hl => .lst n ds a cap vs hn (G.row_le h hr) hs (RelL.mono h hl)
  | _, _, .sl l i v off n w a cap L e hv hn ha hs hc hc' =>
    let ⟨L', e', hl⟩ := h.loc l i L e
    .sl l i v off n w a cap L' e' (Loc.okv_le hv hl) hn ha hs (fun blk bo sz eq => hc blk bo sz (Loc.back hv hl eq)) (fun eq => hc' (Loc.back_virt hv hl eq))
  | _, _, .fn f fs cs fs' cs' h1 h2 => .fn f fs cs fs' cs' (RelL.mono h h1) (RelL.mono h h2)
  | _, _, .nilf => .nilf
  | _, _, .yld l i b e =>
    let ⟨L', e', hl⟩ := h.loc l i _ e
    .yld l i b (by rw [e', show L' = .lp b from hl])
  | _, _, .mpv l i b e =>
    let ⟨L', e', hl⟩ := h.loc l i _ e
    .mpv l i b (by rw [e', show L' = .mp b from hl])
  | _, _, .itv l i b L e hc =>
    let ⟨L', e', hl⟩ := h.loc l i L e
    .itv l i b L' e' (by
      rcases hc with rfl | rfl
      · exact hl
      · exact .inr hl)
  | _, _, .bdv l i b L e hc =>
    let ⟨L', e', hl⟩ := h.loc l i L e
    .bdv l i b L' e' (by
      rcases hc with ⟨c, rfl⟩ | rfl
      · exact hl
      · exact .inr hl)
  | _, _, .ifc t d c h1 => .ifc t d c (RelV.mono h h1)
  | _, _, .nili => .nili
theorem RelL.mono {g g' : G} (h : g.le g') : ∀ {ds : List D} {cs : List Value}, RelL g ds cs → RelL g' ds cs
  | _, _, .nil => .nil
  | _, _, .cons d c ds cs h1 h2 => .cons d c ds cs (RelV.mono h h1) (RelL.mono h h2)
end

section lists
variable {g : G}
theorem RelL.length {ds : List D} {cs : List Value} (h : RelL g ds cs) : ds.length = cs.length := by
  induction ds generalizing cs with
  | nil => cases h; rfl
  | cons d ds ih => cases h with | cons _ c _ cs h1 h2 => simp [ih h2]
theorem RelL.get {ds : List D} {cs : List Value} (h : RelL g ds cs) {j : Nat} {d : D} (e : ds[j]? = some d) : ∃ c, cs[j]? = some c ∧ RelV g d c := by
  induction ds generalizing cs j with
  | nil => simp at e
  | cons d0 ds ih =>
    cases h with
    | cons _ c _ cs h1 h2 =>
      cases j with
      | zero => simp at e; subst e; exact ⟨c, rfl, h1⟩
      | succ j => exact ih h2 (by simpa using e)
theorem RelL.append {a b : List D} {x y : List Value} (h : RelL g a x) (h' : RelL g b y) : RelL g (a ++ b) (x ++ y) := by
  induction a generalizing x with
  | nil => cases h; exact h'
  | cons d a ih => cases h with | cons _ c _ cs h1 h2 => exact .cons _ _ _ _ h1 (ih h2)
theorem RelL.take {a : List D} {x : List Value} (h : RelL g a x) (n : Nat) : RelL g (a.take n) (x.take n) := by
  induction a generalizing x n with
  | nil => cases h; simpa using RelL.nil
  | cons d a ih =>
    cases h with
    | cons _ c _ cs h1 h2 =>
      cases n with
      | zero => exact .nil
      | succ n => exact .cons _ _ _ _ h1 (ih h2 n)
theorem RelL.drop {a : List D} {x : List Value} (h : RelL g a x) (n : Nat) : RelL g (a.drop n) (x.drop n) := by
  induction a generalizing x n with
  | nil => cases h; simpa using RelL.nil
  | cons d a ih =>
    cases h with
    | cons _ c _ cs h1 h2 =>
      cases n with
      | zero => exact .cons _ _ _ _ h1 h2
      | succ n => exact ih h2 n
theorem RelL.of_get {ds : List D} {cs : List Value} (hl : ds.length = cs.length) (h : ∀ (j : Nat) (d : D) (c : Value), ds[j]? = some d → cs[j]? = some c → RelV g d c) : RelL g ds cs := by
  induction ds generalizing cs with
  | nil => cases cs with
    | nil => exact .nil
    | cons c cs => simp at hl
  | cons d ds ih =>
    cases cs with
    | nil => simp at hl
    | cons c cs =>
      exact .cons _ _ _ _ (h 0 d c rfl rfl) (ih (by simpa using hl) fun j d' c' e e' => h (j + 1) d' c' (by simpa using e) (by simpa using e'))
theorem RelV.cells {d : D} {c : Value} (h : RelV g d c) {ds : List D} (e : d.cells = some ds) : RelL g ds c.cells.toList ∧ ∀ x ∈ c.cells.toList, x.oneCell' = true := by
  have h0 := h
  cases h with
  | agg ds' cs hr h1 => simp only [D.cells, Option.some.injEq] at e; subst e; exact ⟨hr, h1⟩
  | undef c => simp [D.cells] at e
  | tup => simp [D.cells] at e
  | _ => simp only [D.cells, Option.some.injEq] at e; subst e; exact ⟨.cons _ _ _ _ h0 .nil, by simp [Value.cells, Value.oneCell']⟩
end lists


def RelEnv (g : G) (e : Env) (tmps : Array Value) : Prop := ∀ t, RelV g (get e t) (tmps.getD t Go.undef)

theorem RelEnv.mono {g g' : G} (h : g.le g') {e : Env} {tmps : Array Value} (hr : RelEnv g e tmps) : RelEnv g' e tmps := fun t => (hr t).mono h

structure CRel where
  rel : Cmd → Code → Nat → Prop
  glb : Nat → (Obj → Prop) → Prop

def stOf : Nat → LoopState
  | 0 => .ready
  | 1 => .busy
  | 2 => .done
  | _ => .exhausted

def pendOf : Option Exit → Option (Option Code)
  | none => some none
  | some (.exit id) => some (some (.exit id))
  | some .ret => some (some .ret)
  | some .normal => none
  | some (.thr _) => none

structure RelLoop (CR : CRel) (g : G) (lp : LoopSt) (r : Loop) : Prop where
  state : r.state = stOf lp.state
  pend : pendOf lp.pend = some r.pending
  env : RelEnv g lp.env r.tmps
  params : r.params.toList = lp.params
  small : ∀ t ∈ lp.params, t < r.tmps.size
  both : CR.rel (.ite (.t 0) lp.asg lp.body) (.cond (.tmp 0) r.assign r.body) r.tmps.size

def MapOk (es : List MapEntry) (clock : Nat) : Prop := es.map (·.born) = List.range es.length ∧ clock = es.length

def RelB (CR : CRel) (g : G) (w : World) : Blk → Loc → Prop
  | .cells v cs, .at b off v' sz => v = v' ∧ ∃ (c : Array Value) (el : TypeId), w.heap[b]? = some (.cells c el (0, 0)) ∧ c.size = sz ∧ off + cs.length ≤ sz ∧
      ∃ vs, RelL g cs vs ∧ (∀ j x, vs[j]? = some x → c[off + j]? = some x ∧ x.oneCell' = true)
  | .cells v cs, .virt v' => v = v' ∧ cs = []
  | .dead, .dead => True
  | .loop lp, .lp b => ∃ r, w.heap[b]? = some (.loop r) ∧ RelLoop CR g lp r
  | .cells v es, .mp b => v = 0 ∧ ∃ ents clock, w.heap[b]? = some (.map ents clock) ∧ RelL g es (ents.toList.map fun e => .tuple #[e.key, e.val]) ∧ MapOk ents.toList clock
  | .cells v cs, .it b => v = 1 ∧ ∃ l i bm n, ∃ js : List Nat, cs = .yld l i :: .int .i64 (n : Nat) :: js.map (fun j : Nat => D.int .i64 j) ∧ g.loc l i = some (.mp bm) ∧
      w.heap[b]? = some (.mapIter (some bm) n js.reverse.toArray n) ∧ js.Nodup ∧ ∀ j ∈ js, j < n
  | .cells v cs, .ob b c => v = 2 ∧ ∃ (T e : Nat) (bs : List UInt8) (p s : Value), cs = [.int .i64 T, .int .i64 e, .str bs] ∧ w.heap[b]? = some (.cells #[p, s] T (0, 0)) ∧
      (p = .pointer none ∨ p = .pointer (some ⟨b, 0, none⟩)) ∧ w.ownsRowF 0 e 1 s bs.length (bs.map fun x => .int .u8 x.toNat) ∧ s.ownBlock = c ∧ c ≠ some b
  | _, _ => False

structure Inv (CR : CRel) (base : Nat) (g : G) (σ : Stack) (w : World) : Prop where
  ge : base ≤ w.heap.size
  dom : ∀ l i L, g.loc l i = some L → ∃ b, blk? σ l i = some b ∧ RelB CR g w b L
  imm : ∀ b o v, g.imm b o = some v → w.cell? ⟨b, o, none⟩ = some v ∧ v.oneCell' = true
  sep : ∀ l i L b, g.loc l i = some L → L.owns b → ∀ o, g.imm b o = none
  inj : ∀ l i L l' i' L' b, g.loc l i = some L → g.loc l' i' = some L' → L.owns b → L'.owns b → l = l' ∧ i = i'
  lo : ∀ l i L b, g.loc l i = some L → L.owns b → base ≤ b ∧ b < w.heap.size
  tot : ∀ l i b, blk? σ l i = some b → ∃ L, g.loc l i = some L
  glb : ∀ b Q, CR.glb b Q → (∃ v, g.imm b 0 = some v) ∧ ∃ o, w.heap[b]? = some o ∧ Q o

def G.has (g : G) (b : Nat) : Prop := ∃ l i L, g.loc l i = some L ∧ L.owns b

structure Ev (g : G) (w : World) (g' : G) (w' : World) : Prop where
  le : g.le g'
  os : w'.os = w.os
  tape : w'.tape = w.tape
  output : w'.output = w.output
  size : w.heap.size ≤ w'.heap.size
  kept : ∀ b, b < w.heap.size → ¬ g.has b → w'.heap[b]? = w.heap[b]?
  img : ∀ b, g'.has b → g.has b ∨ w.heap.size ≤ b
  immN : ∀ b o v, g'.imm b o = some v → g.imm b o = some v ∨ g.has b ∨ w.heap.size ≤ b

theorem Ev.refl (g : G) (w : World) : Ev g w g w := ⟨g.le_refl, rfl, rfl, rfl, Nat.le_refl _, fun _ _ _ => rfl, fun _ h => .inl h, fun _ _ _ h => .inl h⟩

theorem Ev.trans {g g1 g2 : G} {w w1 w2 : World} (h : Ev g w g1 w1) (h' : Ev g1 w1 g2 w2) : Ev g w g2 w2 where
  le := G.le_trans h.le h'.le
  os := h'.os.trans h.os
  tape := h'.tape.trans h.tape
  output := h'.output.trans h.output
  size := Nat.le_trans h.size h'.size
  kept b hb hn := by
    have h1 : ¬ g1.has b := fun hx => by
      rcases h.img b hx with hx | hx
      · exact hn hx
      · omega
    rw [h'.kept b (Nat.lt_of_lt_of_le hb h.size) h1, h.kept b hb hn]
  img b hb := by
    rcases h'.img b hb with hx | hx
    · exact h.img b hx
    · exact .inr (Nat.le_trans h.size hx)
  immN b o v hv := by
    rcases h'.immN b o v hv with hx | hx | hx
    · exact h.immN b o v hx
    · exact .inr (h.img b hx)
    · exact .inr (.inr (Nat.le_trans h.size hx))


section stack
theorem seg?_lt {σ : Stack} {l : Nat} {s : List Blk} (h : seg? σ l = some s) : l < σ.length := by
  induction σ with
  | nil => simp [seg?] at h
  | cons s0 σ ih =>
    simp only [seg?] at h
    split at h
    · simp; omega
    · have := ih h; simp; omega

theorem seg?_setSeg {σ : Stack} {l : Nat} {s : List Blk} (h : l < σ.length) : seg? (setSeg σ l s) l = some s := by
  induction σ with
  | nil => simp at h
  | cons s0 σ ih =>
    simp only [setSeg]
    split
    · rename_i e; simp [seg?, e]
    · rename_i e
      simp only [seg?]
      rw [setSeg_length]
      rw [if_neg e]
      exact ih (by simp at h; omega)
where
  setSeg_length {σ : Stack} {l : Nat} {s : List Blk} : (setSeg σ l s).length = σ.length := by
    induction σ with
    | nil => rfl
    | cons s0 σ ih => simp only [setSeg]; split <;> simp [ih]

theorem setSeg_length {σ : Stack} {l : Nat} {s : List Blk} : (setSeg σ l s).length = σ.length := seg?_setSeg.setSeg_length

theorem seg?_setSeg_other {σ : Stack} {l l' : Nat} {s : List Blk} (h : l' ≠ l) : seg? (setSeg σ l s) l' = seg? σ l' := by
  induction σ with
  | nil => rfl
  | cons s0 σ ih =>
    simp only [setSeg]
    split
    · rename_i e; simp only [seg?]; rw [if_neg (by omega), if_neg (by omega)]
    · simp only [seg?, setSeg_length]; split
      · rfl
      · exact ih

theorem setBlk_length {σ : Stack} {l i : Nat} {b : Blk} : (setBlk σ l i b).length = σ.length := by
  unfold setBlk; split
  · exact setSeg_length
  · rfl

theorem blk?_setBlk {σ : Stack} {l i : Nat} {b b0 : Blk} (h : blk? σ l i = some b0) : blk? (setBlk σ l i b) l i = some b := by
  unfold blk? at h
  cases hs : seg? σ l with
  | none => simp [hs] at h
  | some s =>
    simp only [hs, Option.bind_some] at h
    have hi : i < s.length := (List.getElem?_eq_some_iff.1 h).1
    simp only [setBlk, hs, blk?, seg?_setSeg (seg?_lt hs), Option.bind_some]
    simp [hi]

theorem blk?_setBlk_other {σ : Stack} {l i l' i' : Nat} {b : Blk} (h : ¬ (l' = l ∧ i' = i)) : blk? (setBlk σ l i b) l' i' = blk? σ l' i' := by
  unfold setBlk
  cases hs : seg? σ l with
  | none => rfl
  | some s =>
    simp only [blk?]
    by_cases hl : l' = l
    · subst hl
      rw [seg?_setSeg (seg?_lt hs), hs]
      simp only [Option.bind_some]
      rw [List.getElem?_set_ne]
      intro e; exact h ⟨rfl, e.symm⟩
    · rw [seg?_setSeg_other hl]

theorem newBlk_spec {σ σ' : Stack} {b : Blk} {l i : Nat} (h : newBlk σ b = some (l, i, σ')) :
    blk? σ l i = none ∧ blk? σ' l i = some b ∧ (∀ l' i', ¬ (l' = l ∧ i' = i) → blk? σ' l' i' = blk? σ l' i') ∧ σ'.length = σ.length ∧ l + 1 = σ.length := by
  cases σ with
  | nil => simp [newBlk] at h
  | cons s σ =>
    simp only [newBlk, Option.some.injEq, Prod.mk.injEq] at h
    obtain ⟨rfl, rfl, rfl⟩ := h
    refine ⟨by simp [blk?, seg?], by simp [blk?, seg?], ?_, rfl, rfl⟩
    intro l' i' hn
    simp only [blk?, seg?]
    split
    · rename_i e
      simp only [Option.bind_some]
      rw [List.getElem?_append]
      split
      · rfl
      · rename_i hlt
        have : i' ≠ s.length := fun e' => hn ⟨e.symm, e'⟩
        rw [List.getElem?_eq_none (by simp; omega), List.getElem?_eq_none (by omega)]
    · rfl
end stack

theorem RelB.mono {CR : CRel} {g g' : G} {w w' : World} {b : Blk} {L : Loc} (h : RelB CR g w b L) (hg : g.le g')
    (hw : ∀ x, L.owns x → w'.heap[x]? = w.heap[x]?) : RelB CR g' w' b L := by
  cases b with
  | cells v cs =>
    cases L with
    | «at» x off v' sz =>
      obtain ⟨rfl, c, el, hb, hsz, hlen, vs, hr, hv⟩ := h
      exact ⟨rfl, c, el, (hw x rfl).trans hb, hsz, hlen, vs, hr.mono hg, hv⟩
    | virt v' => exact h
    | dead => exact h
    | lp x => exact h
    | mp x =>
      obtain ⟨hv, ents, clock, hb, hr, hm⟩ := h
      exact ⟨hv, ents, clock, (hw x rfl).trans hb, hr.mono hg, hm⟩
    | it x =>
      obtain ⟨hv, l, i, bm, n, js, h1, h2, h3, h4⟩ := h
      obtain ⟨L', e', hl⟩ := hg.loc l i _ h2
      exact ⟨hv, l, i, bm, n, js, h1, by rw [e', show L' = .mp bm from hl], (hw x rfl).trans h3, h4⟩
    | ob x y =>
      obtain ⟨hv, T, e, bs, p, s, h1, h2, h3, h4, h5, h6⟩ := h
      refine ⟨hv, T, e, bs, p, s, h1, (hw x (.inl rfl)).trans h2, h3, ⟨h4.1, h4.2.imp id fun ⟨q, cap, cur, fz, k1, k2, k3, k4⟩ => ⟨q, cap, cur, fz, k1, k2, (hw q (.inr ?_)).trans k3, k4⟩⟩, h5, h6⟩
      rw [← h5, k1]; rfl
  | dead => cases L <;> exact h
  | loop lp =>
    cases L with
    | lp x =>
      obtain ⟨r, hb, hr⟩ := h
      exact ⟨r, (hw x rfl).trans hb, { hr with env := hr.env.mono hg }⟩
    | «at» x off v' sz => exact h
    | virt v' => exact h
    | dead => exact h
    | mp x => exact h
    | it x => exact h
    | ob x y => exact h

theorem Inv.turn {CR : CRel} {base : Nat} {g g' : G} {σ σ' : Stack} {w w' : World} (hi : Inv CR base g σ w) (l i : Nat)
    (hle : g.le g')
    (hσ : ∀ l' i', ¬ (l' = l ∧ i' = i) → blk? σ' l' i' = blk? σ l' i')
    (hloc : ∀ l' i', ¬ (l' = l ∧ i' = i) → g'.loc l' i' = g.loc l' i')
    (hw : ∀ l' i' L b, ¬ (l' = l ∧ i' = i) → g.loc l' i' = some L → L.owns b → w'.heap[b]? = w.heap[b]?)
    (hnew : ∀ L, g'.loc l i = some L → ∃ b, blk? σ' l i = some b ∧ RelB CR g' w' b L)
    (himm : ∀ b o v, g'.imm b o = some v → w'.cell? ⟨b, o, none⟩ = some v ∧ v.oneCell' = true)
    (hsep : ∀ l' i' L b, g'.loc l' i' = some L → L.owns b → ∀ o, g'.imm b o = none)
    (hinj : ∀ L b, g'.loc l i = some L → L.owns b → base ≤ b ∧ b < w'.heap.size ∧ ∀ l' i' L', ¬ (l' = l ∧ i' = i) → g.loc l' i' = some L' → ¬ L'.owns b)
    (hsize : w.heap.size ≤ w'.heap.size) (htot : ∃ L, g'.loc l i = some L) (hlow : ∀ b v, g.imm b 0 = some v → w'.heap[b]? = w.heap[b]?) : Inv CR base g' σ' w' where
  glb b Q h := let ⟨⟨v, hb⟩, o, ho, hq⟩ := hi.glb b Q h; ⟨⟨v, hle.imm _ _ _ hb⟩, o, (hlow b v hb).trans ho, hq⟩
  tot l' i' b e := by
    by_cases h : l' = l ∧ i' = i
    · obtain ⟨rfl, rfl⟩ := h; exact htot
    · rw [hσ l' i' h] at e; rw [hloc l' i' h]; exact hi.tot l' i' b e
  ge := Nat.le_trans hi.ge hsize
  dom l' i' L e := by
    by_cases h : l' = l ∧ i' = i
    · obtain ⟨rfl, rfl⟩ := h; exact hnew L e
    · rw [hloc l' i' h] at e
      obtain ⟨b, hb, hr⟩ := hi.dom l' i' L e
      exact ⟨b, (hσ l' i' h).trans hb, hr.mono hle fun x hx => hw l' i' L x h e hx⟩
  imm := himm
  sep := hsep
  inj l1 i1 L1 l2 i2 L2 b h1 h2 e1 e2 := by
    by_cases c1 : l1 = l ∧ i1 = i
    · obtain ⟨rfl, rfl⟩ := c1
      by_cases c2 : l2 = l1 ∧ i2 = i1
      · exact ⟨c2.1.symm, c2.2.symm⟩
      · rw [hloc l2 i2 c2] at h2
        exact absurd e2 ((hinj L1 b h1 e1).2.2 l2 i2 L2 c2 h2)
    · rw [hloc l1 i1 c1] at h1
      by_cases c2 : l2 = l ∧ i2 = i
      · obtain ⟨rfl, rfl⟩ := c2
        exact absurd e1 ((hinj L2 b h2 e2).2.2 l1 i1 L1 c1 h1)
      · rw [hloc l2 i2 c2] at h2
        exact hi.inj _ _ _ _ _ _ b h1 h2 e1 e2
  lo l' i' L b e eb := by
    by_cases h : l' = l ∧ i' = i
    · obtain ⟨rfl, rfl⟩ := h; exact ⟨(hinj L b e eb).1, (hinj L b e eb).2.1⟩
    · rw [hloc l' i' h] at e
      have := hi.lo l' i' L b e eb
      exact ⟨this.1, by omega⟩


theorem cell?_congr {w w' : World} {b o : Nat} (h : w'.heap[b]? = w.heap[b]?) : w'.cell? ⟨b, o, none⟩ = w.cell? ⟨b, o, none⟩ := by
  simp only [World.cell?, h]

theorem Inv.heap {CR : CRel} {base : Nat} {g : G} {σ : Stack} {w w1 : World} (hi : Inv CR base g σ w) (h : w1.heap = w.heap) : Inv CR base g σ w1 where
  ge := by rw [h]; exact hi.ge
  dom l i L e := let ⟨b, hb, hr⟩ := hi.dom l i L e; ⟨b, hb, hr.mono g.le_refl fun x _ => by rw [h]⟩
  imm b o v e := let ⟨h1, h2⟩ := hi.imm b o v e; ⟨(cell?_congr (by rw [h])).trans h1, h2⟩
  sep := hi.sep
  inj := hi.inj
  tot := hi.tot
  glb := by rw [h]; exact hi.glb
  lo l i L b e eb := by rw [h]; exact hi.lo l i L b e eb

theorem Ev.heap (g : G) {w w1 : World} (h : w1.heap = w.heap) (ho : w1.os = w.os) (ht : w1.tape = w.tape) (hp : w1.output = w.output) : Ev g w g w1 :=
  ⟨g.le_refl, ho, ht, hp, by rw [h]; exact Nat.le_refl _, fun b _ _ => by rw [h], fun b hb => .inl hb, fun b o v hv => .inl hv⟩

theorem Inv.imm_lt {CR : CRel} {base : Nat} {g : G} {σ : Stack} {w : World} (hi : Inv CR base g σ w) {b o : Nat} {v : Value} (h : g.imm b o = some v) : b < w.heap.size :=
  World.block_lt_of_cell? (a := ⟨b, o, none⟩) w (hi.imm b o v h).1

theorem Inv.has_lt {CR : CRel} {base : Nat} {g : G} {σ : Stack} {w : World} (hi : Inv CR base g σ w) {b : Nat} (h : g.has b) : b < w.heap.size :=
  let ⟨l, i, L, e, eb⟩ := h; (hi.lo l i L b e eb).2

def G.addImm (g : G) (x : Nat) (vs : List Value) : G := ⟨g.loc, fun b o => if b = x then vs[o]? else g.imm b o⟩

theorem alloc_old {w : World} {o : Obj} {b : Nat} (h : b < w.heap.size) : (w.alloc o).heap[b]? = w.heap[b]? := by
  simp only [World.alloc, Array.getElem?_push]; rw [if_neg (by omega)]

theorem alloc_new {w : World} {o : Obj} : (w.alloc o).heap[w.heap.size]? = some o := by
  simp only [World.alloc, Array.getElem?_push_size]

theorem Inv.newImm {CR : CRel} {base : Nat} {g : G} {σ : Stack} {w : World} (hi : Inv CR base g σ w) (vs : List Value) (cs : Array Value) (el : TypeId)
    (hcs : ∀ (j : Nat) x, vs[j]? = some x → cs[j]? = some x ∧ x.oneCell' = true) :
    Inv CR base (g.addImm w.heap.size vs) σ (w.alloc (.cells cs el)) ∧ Ev g w (g.addImm w.heap.size vs) (w.alloc (.cells cs el)) ∧ (g.addImm w.heap.size vs).row w.heap.size 0 vs := by
  have hle : g.le (g.addImm w.heap.size vs) := ⟨fun l i L e => ⟨L, e, L.le_refl⟩, fun b o v e => by
    have := hi.imm_lt e
    simp only [G.addImm]; rw [if_neg (by omega)]; exact e⟩
  refine ⟨⟨?_, ?_, ?_, ?_, hi.inj, ?_, hi.tot, fun b Q h => let ⟨⟨v, hb⟩, o, ho, hq⟩ := hi.glb b Q h; ⟨⟨v, hle.imm _ _ _ hb⟩, o, (alloc_old (hi.imm_lt hb)).trans ho, hq⟩⟩, ⟨hle, rfl, rfl, rfl, by simp, fun b hb _ => alloc_old hb, fun b hb => .inl hb, ?_⟩, ?_⟩
  · have := hi.ge; simp; omega
  · intro l i L e
    obtain ⟨b, hb, hr⟩ := hi.dom l i L e
    exact ⟨b, hb, hr.mono hle fun x hx => alloc_old (hi.lo l i L x e hx).2⟩
  · intro b o v e
    simp only [G.addImm] at e
    split at e
    · rename_i hb; subst hb
      obtain ⟨h1, h2⟩ := hcs o v e
      exact ⟨by rw [World.cell?_alloc_new]; exact h1, h2⟩
    · obtain ⟨h1, h2⟩ := hi.imm b o v e
      exact ⟨(cell?_congr (alloc_old (hi.imm_lt e))).trans h1, h2⟩
  · intro l i L b e eb o
    have := (hi.lo l i L b e eb).2
    simp only [G.addImm]; rw [if_neg (by omega)]; exact hi.sep l i L b e eb o
  · intro l i L b e eb
    have := hi.lo l i L b e eb
    exact ⟨this.1, by simp; omega⟩
  · intro b o v hv
    simp only [G.addImm] at hv
    split at hv
    · rename_i hb; exact .inr (.inr (by omega))
    · exact .inl hv
  · intro j v hv; simp [G.addImm, hv]

def G.setLoc (g : G) (l i : Nat) (L : Loc) : G := ⟨fun l' i' => if l' = l ∧ i' = i then some L else g.loc l' i', g.imm⟩

theorem G.setLoc_same {g : G} {l i : Nat} {L : Loc} : (g.setLoc l i L).loc l i = some L := by simp [G.setLoc]
theorem G.setLoc_other {g : G} {l i l' i' : Nat} {L : Loc} (h : ¬ (l' = l ∧ i' = i)) : (g.setLoc l i L).loc l' i' = g.loc l' i' := by simp only [G.setLoc]; rw [if_neg h]

theorem G.le_setLoc {g : G} {l i : Nat} {L : Loc} (h : ∀ L0, g.loc l i = some L0 → L0.le L) : g.le (g.setLoc l i L) :=
  ⟨fun l' i' L' e => by
    by_cases c : l' = l ∧ i' = i
    · obtain ⟨rfl, rfl⟩ := c; exact ⟨L, G.setLoc_same, h L' e⟩
    · exact ⟨L', by rw [G.setLoc_other c]; exact e, L'.le_refl⟩, fun _ _ _ e => e⟩

theorem Inv.none_of {CR : CRel} {base : Nat} {g : G} {σ : Stack} {w : World} (hi : Inv CR base g σ w) {l i : Nat} (h : blk? σ l i = none) : g.loc l i = none := by
  cases e : g.loc l i with
  | none => rfl
  | some L => obtain ⟨b, hb, _⟩ := hi.dom l i L e; rw [h] at hb; cases hb

theorem Inv.newCells {CR : CRel} {base : Nat} {g : G} {σ σ' : Stack} {w : World} (hi : Inv CR base g σ w) {l i : Nat} {ds : List D} (hn : newBlk σ (.cells 0 ds) = some (l, i, σ'))
    (vs : List Value) (cs : Array Value) (el : TypeId) (hr : RelL g ds vs) (hlen : vs.length ≤ cs.size)
    (hcs : ∀ (j : Nat) x, vs[j]? = some x → cs[j]? = some x ∧ x.oneCell' = true) :
    Inv CR base (g.setLoc l i (.at w.heap.size 0 0 cs.size)) σ' (w.alloc (.cells cs el)) ∧ Ev g w (g.setLoc l i (.at w.heap.size 0 0 cs.size)) (w.alloc (.cells cs el)) := by
  obtain ⟨h1, h2, h3, _, _⟩ := newBlk_spec hn
  have hnone := hi.none_of h1
  have hle : g.le (g.setLoc l i (.at w.heap.size 0 0 cs.size)) := G.le_setLoc fun L0 e => by rw [hnone] at e; cases e
  refine ⟨hi.turn l i hle h3 (fun l' i' c => G.setLoc_other c) (fun l' i' L b c e eb => alloc_old (hi.lo l' i' L b e eb).2) ?_ ?_ ?_ ?_ (by simp) ⟨_, G.setLoc_same⟩ (fun b v hb => alloc_old (hi.imm_lt hb)), ⟨hle, rfl, rfl, rfl, by simp, fun b hb _ => alloc_old hb, ?_, fun b o v hv => .inl hv⟩⟩
  · intro L e
    rw [G.setLoc_same] at e; cases e
    exact ⟨_, h2, rfl, cs, el, alloc_new, rfl, by rw [hr.length]; omega, vs, hr.mono hle, fun j x hx => by simpa using hcs j x hx⟩
  · intro b o v e
    obtain ⟨h1, h2⟩ := hi.imm b o v e
    exact ⟨(cell?_congr (alloc_old (hi.imm_lt e))).trans h1, h2⟩
  · intro l' i' L b e eb o
    by_cases c : l' = l ∧ i' = i
    · obtain ⟨rfl, rfl⟩ := c
      rw [G.setLoc_same] at e; cases e; cases eb
      cases e' : (g.setLoc l' i' (.at w.heap.size 0 0 cs.size)).imm w.heap.size o with
      | none => rfl
      | some v => have := hi.imm_lt (b := w.heap.size) (o := o) (v := v) e'; omega
    · rw [G.setLoc_other c] at e; exact hi.sep l' i' L b e eb o
  · intro L b e eb
    rw [G.setLoc_same] at e; cases e; cases eb
    refine ⟨hi.ge, by simp, fun l' i' L' c e' eb' => ?_⟩
    have := (hi.lo l' i' L' _ e' eb').2; omega
  · intro b hb
    obtain ⟨l', i', L, e, eb⟩ := hb
    by_cases c : l' = l ∧ i' = i
    · obtain ⟨rfl, rfl⟩ := c
      rw [G.setLoc_same] at e; cases e; cases eb; exact .inr (Nat.le_refl _)
    · rw [G.setLoc_other c] at e; exact .inl ⟨l', i', L, e, eb⟩

theorem Inv.newVirt {CR : CRel} {base : Nat} {g : G} {σ σ' : Stack} {w : World} (hi : Inv CR base g σ w) {l i : Nat} (hn : newBlk σ (.cells 0 []) = some (l, i, σ')) :
    Inv CR base (g.setLoc l i (.virt 0)) σ' w ∧ Ev g w (g.setLoc l i (.virt 0)) w := by
  obtain ⟨h1, h2, h3, _, _⟩ := newBlk_spec hn
  have hnone := hi.none_of h1
  have hle : g.le (g.setLoc l i (.virt 0)) := G.le_setLoc fun L0 e => by rw [hnone] at e; cases e
  refine ⟨hi.turn l i hle h3 (fun l' i' c => G.setLoc_other c) (fun _ _ _ _ _ _ _ => rfl) ?_ hi.imm ?_ ?_ (Nat.le_refl _) ⟨_, G.setLoc_same⟩ (fun _ _ _ => rfl), ⟨hle, rfl, rfl, rfl, Nat.le_refl _, fun _ _ _ => rfl, ?_, fun b o v hv => .inl hv⟩⟩
  · intro L e
    rw [G.setLoc_same] at e; cases e
    exact ⟨_, h2, rfl, rfl⟩
  · intro l' i' L b e eb o
    by_cases c : l' = l ∧ i' = i
    · obtain ⟨rfl, rfl⟩ := c; rw [G.setLoc_same] at e; cases e; cases eb
    · rw [G.setLoc_other c] at e; exact hi.sep l' i' L b e eb o
  · intro L b e eb
    rw [G.setLoc_same] at e; cases e; cases eb
  · intro b hb
    obtain ⟨l', i', L, e, eb⟩ := hb
    by_cases c : l' = l ∧ i' = i
    · obtain ⟨rfl, rfl⟩ := c; rw [G.setLoc_same] at e; cases e; cases eb
    · rw [G.setLoc_other c] at e; exact .inl ⟨l', i', L, e, eb⟩

theorem Inv.setCells {CR : CRel} {base : Nat} {g : G} {σ : Stack} {w w' : World} (hi : Inv CR base g σ w) {l i : Nat} {L0 L : Loc} {b0 : Blk} {v : Nat} {ds : List D}
    (h0 : g.loc l i = some L0) (hb0 : blk? σ l i = some b0) (hL : L0.le L)
    (hrel : RelB CR (g.setLoc l i L) w' (.cells v ds) L)
    (hkept : ∀ b, b < w.heap.size → ¬ L0.owns b → w'.heap[b]? = w.heap[b]?)
    (hos : w'.os = w.os) (htape : w'.tape = w.tape) (hout : w'.output = w.output)
    (hsize : w.heap.size ≤ w'.heap.size)
    (hblk : ∀ b, L.owns b → (L0.owns b ∨ (w.heap.size ≤ b ∧ b < w'.heap.size))) :
    Inv CR base (g.setLoc l i L) (setBlk σ l i (.cells v ds)) w' ∧ Ev g w (g.setLoc l i L) w' := by
  have hle : g.le (g.setLoc l i L) := G.le_setLoc fun L1 e => by rw [h0] at e; cases e; exact hL
  refine ⟨hi.turn l i hle (fun l' i' c => blk?_setBlk_other c) (fun l' i' c => G.setLoc_other c) ?_ ?_ ?_ ?_ ?_ hsize ⟨_, G.setLoc_same⟩ (fun b v hb => hkept b (World.block_lt_of_cell? (a := ⟨b, 0, none⟩) w (hi.imm b 0 v hb).1) fun eb0 => by have h := hi.sep l i L0 b h0 eb0 0; rw [hb] at h; cases h), ⟨hle, hos, htape, hout, hsize, ?_, ?_, fun b o v hv => .inl hv⟩⟩
  · intro l' i' L' b c e eb
    refine hkept b (hi.lo l' i' L' b e eb).2 fun eb0 => c ?_
    have := hi.inj l' i' L' l i L0 b e h0 eb eb0
    exact this
  · intro L1 e
    rw [G.setLoc_same] at e; cases e
    exact ⟨_, blk?_setBlk hb0, hrel⟩
  · intro b o x e
    obtain ⟨h1, h2⟩ := hi.imm b o x e
    refine ⟨(cell?_congr (hkept b (hi.imm_lt e) fun eb0 => ?_)).trans h1, h2⟩
    have := hi.sep l i L0 b h0 eb0 o
    rw [show g.imm b o = some x from e] at this; cases this
  · intro l' i' L' b e eb o
    by_cases c : l' = l ∧ i' = i
    · obtain ⟨rfl, rfl⟩ := c
      rw [G.setLoc_same] at e; cases e
      rcases hblk b eb with h | ⟨h, _⟩
      · exact hi.sep _ _ L0 b h0 h o
      · cases e' : (g.setLoc l' i' L).imm b o with
        | none => rfl
        | some v => have := hi.imm_lt (b := b) (o := o) (v := v) e'; omega
    · rw [G.setLoc_other c] at e; exact hi.sep l' i' L' b e eb o
  · intro L1 b e eb
    rw [G.setLoc_same] at e; cases e
    rcases hblk b eb with h | ⟨h, h'⟩
    · have := hi.lo l i L0 b h0 h
      refine ⟨this.1, by omega, fun l' i' L' c e' eb' => c ?_⟩
      exact hi.inj l' i' L' l i L0 b e' h0 eb' h
    · exact ⟨Nat.le_trans hi.ge h, h', fun l' i' L' c e' eb' => by have := (hi.lo l' i' L' b e' eb').2; omega⟩
  · intro b hb hn
    exact hkept b hb fun e => hn ⟨l, i, L0, h0, e⟩
  · intro b hb
    obtain ⟨l', i', L', e, eb⟩ := hb
    by_cases c : l' = l ∧ i' = i
    · obtain ⟨rfl, rfl⟩ := c
      rw [G.setLoc_same] at e; cases e
      rcases hblk b eb with h | ⟨h, _⟩
      · exact .inl ⟨_, _, L0, h0, h⟩
      · exact .inr h
    · rw [G.setLoc_other c] at e; exact .inl ⟨l', i', L', e, eb⟩

theorem frzL_pure {l n : Nat} : ∀ {ds : List D} {σ : Stack}, D.cleanL ds = true → frz.frzL (frz l (n + 1)) ds σ = (ds, σ)
  | [], σ, h => rfl
  | d :: ds, σ, h => by
    simp only [D.cleanL, Bool.and_eq_true] at h
    have h1 : frz l (n + 1) d σ = (d, σ) := by cases d <;> simp [frz, h.1]
    simp only [frz.frzL, h1, frzL_pure h.2]

theorem sop_stc {e : Env} {σ : Stack} {os : List Nat} {sz : Nat} {X Y : Opd} {r : D × Stack} (h : sop e σ (.stc os sz X Y) = some r) : sop e σ (.st [] sz X Y) = some r := by
  simp only [sop] at h ⊢
  cases hx : opd e X <;> rw [hx] at h <;> try (cases h; done)
  dsimp only at h ⊢
  split at h
  case isFalse => cases h
  split at h
  case h_2 => cases h
  rename_i cs hcs
  split at h
  case h_2 => cases h
  rename_i p hp
  split at h
  case isFalse => cases h
  rename_i hc
  try simp only [hcs]
  try simp only [hp]
  try dsimp only
  rw [if_pos ⟨hc.1, hc.2.1⟩]
  split
  · simpa [nilbs] using h
  · rename_i hn
    rw [show deep = 15 + 1 from rfl, frzL_pure (hc.2.2.resolve_right hn)]
    exact h

end Go.Abs

/-
  From the model's code to the small instruction set.
-/
namespace Go.Abs
open Go

structure Ann where
  live : List (Nat × List Nat)
  llive : List (Nat × List Nat)
  seg : List Nat
  mutb : List Nat
  ownv : List Nat
  nb : List (Nat × List (Nat × Nat))
  kp : List Nat
  fz : List (Nat × List Nat)
  imm : List Nat
  sx : List (Nat × Option (List Nat))
  thr : List (Nat × Option Nat) := []

def look {α : Type} (n : Nat) (d : α) : List (Nat × α) → α
  | [] => d
  | (k, v) :: r => if k = n then v else look n d r

def valD : Value → Option D
  | .bool b => some (.bool b)
  | .int k n => some (.int k n)
  | .string s => some (.str s.data.toList)
  | .pointer none => some .nilp
  | .slice none 0 0 => some .nils
  | .nilFunc => some .nilf
  | .nilIface => some .nili
  | .map none => some .undef
  | _ => none

def cellsD : List Value → Option (List D)
  | [] => some []
  | v :: vs => match valD v, cellsD vs with
    | some d, some ds => some (d :: ds)
    | _, _ => none

def constD : Value → Option D
  | .agg cs => (cellsD cs.toList).map .agg
  | v => valD v

def opdC : Operand → Option Opd
  | .tmp t => some (.t t)
  | .const v => (constD v).map .c
  | .func f => some (.c (.fn f [] []))
  | .global _ => none

def opdsC : List Operand → Option (List Opd)
  | [] => some []
  | x :: xs => match opdC x, opdsC xs with
    | some y, some ys => some (y :: ys)
    | _, _ => none

def optC : Option Operand → Option (Option Opd)
  | none => some none
  | some x => (opdC x).map some

def sizeC (P : Program) (t : TypeId) : Option Nat := (P.info? t).map (·.size)

def aggC (P : Program) (t : TypeId) : Option Bool :=
  match P.underlying t with
  | some (.struct _) | some (.array _ _) => some true
  | some _ => some false
  | none => none

def zeroC (P : Program) (t : TypeId) : Option (List D) :=
  match P.info? t with
  | some i => match i.zero with
    | some z => cellsD z.cells.toList
    | none => none
  | none => none

def isNilSlice : Operand → Bool
  | .const (.slice none 0 0) => true
  | _ => false

def partsC (place : Nat → Option (Nat × Nat)) : List (Nat × Operand) → Option (List (Nat × Nat × Opd))
  | [] => some []
  | (i, x) :: r => match place i, opdC x, partsC place r with
    | some (o, s), some y, some r' => some ((o, s, y) :: r')
    | _, _, _ => none

def fieldsC (P : Program) (fs : Array Field) (i : Nat) : Option (Nat × Nat) :=
  match fs[i]? with
  | some f => (sizeC P f.type).map fun s => (f.offset, s)
  | none => none

def kindsC (P : Program) : Nat → TypeId → Option (List (Option IntKind))
  | 0, _ => none
  | d + 1, t =>
    match P.underlying t with
    | some (.int k) => some [some k]
    | some .bool => some [none]
    | some (.struct fs) => if P.stoodInHeld t then none else kindsF P (kindsC P d) 0 fs.toList
    | some (.array n e) => match kindsC P d e with
      | some ks => if sizeC P e == some ks.length && decide (0 < ks.length) then some ((List.range n).flatMap fun _ => ks) else none
      | none => none
    | _ => none
where
  kindsF (P : Program) (f : TypeId → Option (List (Option IntKind))) (o : Nat) : List Field → Option (List (Option IntKind))
    | [] => some []
    | x :: r => match f x.type with
      | some ks => if x.name ≠ "_" ∧ x.offset = o ∧ sizeC P x.type = some ks.length ∧ 0 < ks.length then (kindsF P f (o + ks.length) r).map (ks ++ ·) else none
      | none => none

def zvC (P : Program) (t : TypeId) : Option D :=
  match P.info? t with
  | some i => match i.zero with
    | some z => constD z
    | none => none
  | none => none

def keyC (P : Program) (t : TypeId) : Option Ky :=
  match P.underlying t with
  | some .string => some none
  | some (.int k) => some (some (false, [some k]))
  | some (.struct fs) =>
    if fs.toList.all (fun f => match P.underlying f.type with | some (.int _) => true | some .bool => true | _ => false) then
      (kindsC P 20 t).map fun ks => some (true, ks)
    else none
  | _ => none

def eqC (P : Program) (b : BinOp) (t : TypeId) (x y : Opd) : Option K :=
  match kindsC P 20 t with
  | some ks => if P.eqGuardType P.depth t then none else
    match b with
    | .eql => (aggC P t).map fun ag => .eqv ag ks false x y
    | .neq => (aggC P t).map fun ag => .eqv ag ks true x y
    | _ => none
  | none => none

def rootC (ops : Array Oper) : Nat → Nat → Nat
  | 0, t => t
  | n + 1, t =>
    match ops.toList.find? (fun o => o.dst == some t) with
    | some o => match o.op with
      | .fieldAddr _ (.tmp x) _ => rootC ops n x
      | .indexAddr _ (.tmp x) _ => rootC ops n x
      | _ => t
    | none => t

def tmpOf : Operand → Option Nat
  | .tmp t => some t
  | _ => none

def isC (ps : Bool) (b : BinOp) (x : Opd) : Option K :=
  match b with
  | .eql => some (.isn ps false x)
  | .neq => some (.isn ps true x)
  | _ => none

def rowish : TypeDesc → Bool
  | .slice _ => true
  | .string => true
  | _ => false

def kC (P : Program) (a : Ann) (ops : Array Oper) (key : Nat) (o : Oper) : Option K :=
  match o.op with
  | .move x => (opdC x).map .mv
  | .assign x =>
    match isNilSlice x, P.underlying o.type, o.dst with
    | true, some (.slice e), some d => if a.mutb.contains d then (sizeC P e).map .nilb else (opdC x).map .mv
    | _, _, _ => (opdC x).map .mv
  | .pick c x y => match opdC c, opdC x, opdC y with
    | some c', some x', some y' => some (.pick c' x' y')
    | _, _, _ => none
  | .alloc e => match zeroC P e, o.dst with
    | some z, some d => if a.kp.contains (2000000 + key) then (match P.underlying e with
        | some (.struct fs) => (match fs.toList with
          | [_, f] => (match P.underlying f.type, z with
            | some (.slice b), [.nilp, .nils] => some (.mp (.bld e b) [])
            | _, _ => none)
          | _ => none)
        | _ => none) else some (if a.ownv.contains d then .alcv (look key [] a.nb) z else .alc (look key [] a.nb) z)
    | _, _ => none
  | .box _ x => match opdC x, o.dst with
    | some x', some d => some (if a.ownv.contains d then .boxv x' else if a.mutb.contains d then (match look key [] a.nb with | [] => .boxm x' | nb => .bxn nb x') else .boxi x')
    | _, _ => none
  | .build t ps =>
    match P.underlying t, zeroC P t with
    | some (.struct fs), some z => if fs.toList.all (fun f => (sizeC P f.type).isSome) then (partsC (fieldsC P fs) ps.toList).map (.bld z) else none
    | some (.array _ e), some z => match sizeC P e with
      | some w => (partsC (fun i => some (i * w, w)) ps.toList).map (.bld z)
      | none => none
    | _, _ => none
  | .buildSlice t n ps =>
    match P.underlying t with
    | some (.slice e) =>
      match sizeC P e, zeroC P e, o.dst with
      | some w, some z, some d =>
        if 0 < w ∧ z.length = w ∧ n * w ≤ 2 ^ 24 then
          (partsC (fun i => some (i * w, w)) ps.toList).map fun p =>
            let zs := (List.range n).flatMap fun _ => z
            if n = 0 && ps.isEmpty && a.kp.contains (1000000 + key) then .bse else if a.mutb.contains d then .bsm n w zs p else .bsi n w zs p
        else none
      | _, _, _ => none
    | _ => none
  | .load t x => match aggC P t, sizeC P t, opdC x with
    | some g, some s, some (.t n) => if (g || s == 1) && decide (0 < s) then some (if a.ownv.contains (rootC ops 8 n) then .ldv (rootC ops 8 n) g s n else if a.imm.contains (rootC ops 8 n) then .ldi g s (.t n) else if a.kp.contains (3000000 + key) then .ld0 g s (.t n) else .ld g s (.t n)) else none
    | _, _, _ => none
  | .store t x y => match sizeC P t, opdC x, opdC y with
    | some s, some (.t n), some y' => some (if a.ownv.contains (rootC ops 8 n) then .stv (rootC ops 8 n) (look key [] a.nb) s n y' else (match look key none a.sx with | some os => .stc os s (.t n) y' | none => .st (look key [] a.nb) s (.t n) y'))
    | _, _, _ => none
  | .binOp b t x y _ =>
    match P.underlying t, opdC x, opdC y with
    | some (.int _), some x', some y' => some (.bin b x' y')
    | some .bool, some x', some y' => eqC P b t x' y'
    | some (.struct _), some x', some y' => eqC P b t x' y'
    | some (.array _ _), some x', some y' => eqC P b t x' y'
    | some .string, some x', some y' => (match b with | .add => some (.pur .scat [x', y']) | .eql => some (.pur (.seq false) [x', y']) | .neq => some (.pur (.seq true) [x', y']) | _ => none)
    | some (.pointer _), some x', some (.c .nilp) => isC true b x'
    | some (.pointer el), some x', some y' => if (P.info? el).isSome then (match b with | .eql => some (.me (.peq false) [x', y']) | .neq => some (.me (.peq true) [x', y']) | _ => none) else none
    | some (.slice _), some x', some (.c .nils) => isC false b x'
    | some (.interface _), some x', some (.c .nili) => (match b, y with | .eql, .const .nilIface => some (.isi false x') | .neq, .const .nilIface => some (.isi true x') | _, _ => none)
    | _, _, _ => none
  | .nilCheck x => (opdC x).map .nck
  | .unOp b _ x => (opdC x).map (.un b)
  | .convert s d x =>
    match P.underlying s, P.underlying d, opdC x with
    | some (.int _), some (.int k), some x' => some (.cvt k x')
    | some (.slice e), some .string, some x' => (match P.underlying e, sizeC P e with | some (.int .u8), some 1 => some (.me .b2s [x']) | _, _ => none)
    | some .string, some (.slice e), some x' => (match P.underlying e, sizeC P e with | some (.int .u8), some 1 => some (.me .s2b [x']) | _, _ => none)
    | _, _, _ => none
  | .sliceToArrayPointer t x =>
    match P.underlying t, opdC x with
    | some (.array n e), some x' => (sizeC P e).map fun w => .me (.s2a n w) [x']
    | _, _ => none
  | .makeFunc (.func f) xs ys => match opdsC xs.toList, opdsC ys.toList with
    | some xs', some ys' => some (.mkf f xs' ys')
    | _, _ => none
  | .makeSlice t x y =>
    match P.underlying t with
    | some (.slice e) =>
      match sizeC P e, (P.info? e).map (·.bytes), zeroC P e, opdC x, opdC y with
      | some w, some b, some z, some x', some y' => if 0 < w ∧ 0 < b then some (.mks w b z x' y') else none
      | _, _, _, _, _ => none
    | _ => none
  | .slice t x lo hi mx =>
    match P.underlying t, opdC x, optC lo, optC hi, optC mx with
    | some (.slice e), some x', some lo', some hi', some mx' => (sizeC P e).map fun w => .slc w x' lo' hi' mx'
    | some (.array n e), some x', some lo', some hi', some none => (sizeC P e).map fun w => .slca n w x' lo' hi'
    | some .string, some x', some lo', some hi', some none => some (.pur (.ssub lo'.isSome hi'.isSome) (x' :: (lo'.toList ++ hi'.toList)))
    | _, _, _, _, _ => none
  | .fieldAddr s x i =>
    match P.underlying s, opdC x with
    | some (.struct fs), some x' =>
      match fieldsC P fs i with
      | some (off, sz) => if 0 < sz then some (.fadr off x') else none
      | none => none
    | _, _ => none
  | .field s x i =>
    match P.underlying s, opdC x with
    | some (.struct fs), some x' =>
      match fs[i]? with
      | some f => match aggC P f.type, sizeC P f.type with
        | some g, some sz => if g || sz == 1 then some (.fld g f.offset sz x') else none
        | _, _ => none
      | none => none
    | _, _ => none
  | .indexAddr t x i =>
    match P.underlying t, opdC x, opdC i with
    | some (.array n e), some x', some i' => (sizeC P e).map fun w => .idxA n w x' i'
    | some (.slice e), some x', some i' => (sizeC P e).map fun w => .idxS w x' i'
    | _, _, _ => none
  | .index t x i =>
    match P.underlying t, opdC x, opdC i with
    | some (.array n e), some x', some i' => match aggC P e, sizeC P e with
      | some g, some w => if g || w == 1 then some (.idxV g n w x' i') else none
      | _, _ => none
    | some .string, some x', some i' => some (.pur .sidx [x', i'])
    | _, _, _ => none
  | .extract x i => (opdC x).map (.ext · i)
  | .call c =>
    match c.callee with
    | .value f => match opdC f, opdsC c.args.toList with
      | some f', some xs => some (.call (a.kp.contains key) f' xs)
      | _, _ => none
    | .builtin .len =>
      match c.argTypes.toList, c.args.toList with
      | t :: _, x :: _ => match P.underlying t, opdC x with
        | some (.slice _), some x' => some (.lenS x')
        | some .string, some x' => some (.pur .slen [x'])
        | some (.map _ _), some x' => some (.mp .len [x'])
        | some (.array n _), _ => some (.lenC n)
        | some (.pointer r), _ => (match P.underlying r with | some (.array n _) => some (.lenC n) | _ => none)
        | _, _ => none
      | _, _ => none
    | .builtin .recover => some .rcv
    | .builtin .min => match c.args.toList with
      | [x, y] => (match opdC x, opdC y with | some x', some y' => some (.mn x' y') | _, _ => none)
      | _ => none
    | .builtin .max => match c.args.toList with
      | [x, y] => (match opdC x, opdC y with | some x', some y' => some (.mx x' y') | _, _ => none)
      | _ => none
    | .builtin .append =>
      match c.argTypes.toList, c.args.toList with
      | [t, u], [x, y] => match P.underlying t, P.underlying u, opdC x, opdC y with
        | some (.slice e), some uu, some x', some y' =>
          if rowish uu = true then (match sizeC P e, (P.info? e).map (·.bytes), zeroC P e with
          | some w, some b, some z => if 0 < w ∧ 0 < b ∧ b ≤ 2 ^ 20 ∧ z.length = w then
              some (if isNilSlice x && !(o.dst.any a.mutb.contains) then .cpi w b y' else if a.kp.contains (1000000 + key) && (tmpOf x).isSome then .ape w b ((tmpOf x).getD 0) y' else if a.kp.contains key then .apz w b x' y' else (match look key none a.sx with | some os => .apc os w b x' y' | none => .app w b x' y')) else none
          | _, _, _ => none) else none
        | _, _, _, _ => none
      | _, _ => none
    | _ => none
  | .makeInterface t x => if P.concrete t = true then (opdC x).map (.mki t) else none
  | .typeAssert x _ t ok =>
    match P.underlying t, opdC x with
    | some (.interface _), _ => none
    | some _, some x' => if ok then (zvC P t).map fun z => .tas t (some z) x' else some (.tas t none x')
    | _, _ => none
  | .panic x => (opdC x).map .pan
  | .makeMap _ none => some (.mp .make [])
  | .makeMap t (some (.const (.int _ _))) => (match P.underlying t with | some (.map _ _) => some (.mp .make []) | _ => none)
  | .range t x =>
    match P.underlying t, opdC x with
    | some (.map _ _), some x' => some (.mp .rng [x'])
    | _, _ => none
  | .entry x => (match opdC x with
    | some x' => some (.mp .ent [x'])
    | none => none)
  | .lookup t x i ok =>
    match P.underlying t, opdC x, opdC i with
    | some (.map kt et), some x', some i' => (match keyC P kt, zvC P et with
      | some ky, some z => some (.mp (.get ky z ok) [x', i'])
      | _, _ => none)
    | _, _, _ => none
  | .mapUpdate t m x y =>
    match P.underlying t, opdC m, opdC x, opdC y with
    | some (.map kt _), some m', some x', some y' => (match keyC P kt with
      | some ky => some (.mp (.put ky) [m', x', y'])
      | none => none)
    | _, _, _, _ => none
  | .insert t m x y =>
    match P.underlying t, opdC m, opdC x, opdC y with
    | some (.map kt _), some m', some x', some y' => (match keyC P kt with
      | some ky => some (.mp (.put ky) [m', x', y'])
      | none => none)
    | _, _, _, _ => none
  | _ => none

def K.makes : K → Bool
  | .alcv .. => true
  | .boxv _ => true
  | _ => false

def K.stvs : K → Bool
  | .stv .. => true
  | _ => false

def opC (P : Program) (a : Ann) (n reg : Nat) (ops : Array Oper) (ntr : Bool) (i : Nat) (o : Oper) : Option Op :=
  match kC P a ops (reg * 1000 + i) o with
  | some k =>
    match (match o.guard with
      | none => some none
      | some (j, b) => match (ops[j]?).bind (·.dst) with
        | some d => some (some (d, b))
        | none => none), (match o.dst with | some d => decide (d < n) | none => true) with
    | some g, true => if (match o.dst with | some d => !(a.ownv.contains d) || (k.makes && o.guard.isNone) | none => !k.makes) && (!k.stvs || o.dst.isNone) then some { dst := o.dst, grd := g, ntr, k } else none
    | _, _ => none
  | none => none

def opsC (P : Program) (a : Ann) (n reg : Nat) (ops : Array Oper) (tail : Nat) : Nat → List Oper → Option (List Op)
  | _, [] => some []
  | i, o :: r => match opC P a n reg ops (decide (i < tail) && !(a.kp.contains (reg * 1000 + i))) i o, opsC P a n reg ops tail (i + 1) r with
    | some x, some xs => some (x :: xs)
    | _, _ => none

def Mo.calm : Mo → Bool
  | .get .. => true
  | .len => true
  | .ent => true
  | _ => false

def K.calm : K → Bool
  | .st .. => false
  | .stc .. => false
  | .app .. => false
  | .apc .. => false
  | .apz .. => false
  | .nilb _ => false
  | .alc .. => false
  | .boxm _ => false
  | .bxn .. => false
  | .bsm .. => false
  | .mks .. => false
  | .alcv nb _ => nb.isEmpty
  | .stv _ nb _ _ _ => nb.isEmpty
  | .mp o _ => o.calm
  | .pan _ => false
  | .rcv => false
  | _ => true

def K.pure : K → Bool
  | .ld .. => false
  | .ld0 .. => false
  | .slca .. => false
  | .cpi .. => false
  | .ape .. => false
  | .call .. => false
  | .mp .. => false
  | .me .. => false
  | k => k.calm

def Opd.tmps : Opd → List Nat
  | .t n => [n]
  | .c _ => []

def K.tmps : K → List Nat
  | .mv x => x.tmps
  | .nilb _ => []
  | .pick c a b => c.tmps ++ a.tmps ++ b.tmps
  | .alc .. => []
  | .alcv .. => []
  | .boxi x => x.tmps
  | .boxm x => x.tmps
  | .bxn _ x => x.tmps
  | .boxv x => x.tmps
  | .ldv v _ _ a => [v, a]
  | .stv v _ _ a x => [v, a] ++ x.tmps
  | .bld _ ps => ps.flatMap fun p => p.2.2.tmps
  | .bsi _ _ _ ps => ps.flatMap fun p => p.2.2.tmps
  | .bsm _ _ _ ps => ps.flatMap fun p => p.2.2.tmps
  | .ld _ _ a => a.tmps
  | .ldi _ _ a => a.tmps
  | .ld0 _ _ a => a.tmps
  | .isn _ _ x => x.tmps
  | .nck x => x.tmps
  | .st _ _ a x => a.tmps ++ x.tmps
  | .stc os _ a x => a.tmps ++ x.tmps ++ os
  | .bin _ x y => x.tmps ++ y.tmps
  | .eqv _ _ _ x y => x.tmps ++ y.tmps
  | .un _ x => x.tmps
  | .cvt _ x => x.tmps
  | .mkf _ xs ys => xs.flatMap Opd.tmps ++ ys.flatMap Opd.tmps
  | .mks _ _ _ l c => l.tmps ++ c.tmps
  | .slc _ x lo hi m => x.tmps ++ (lo.map Opd.tmps).getD [] ++ (hi.map Opd.tmps).getD [] ++ (m.map Opd.tmps).getD []
  | .slca _ _ x lo hi => x.tmps ++ (lo.map Opd.tmps).getD [] ++ (hi.map Opd.tmps).getD []
  | .fadr _ x => x.tmps
  | .fld _ _ _ x => x.tmps
  | .idxA _ _ x i => x.tmps ++ i.tmps
  | .idxS _ x i => x.tmps ++ i.tmps
  | .idxV _ _ _ x i => x.tmps ++ i.tmps
  | .lenS x => x.tmps
  | .lenC _ => []
  | .mn x y => x.tmps ++ y.tmps
  | .mx x y => x.tmps ++ y.tmps
  | .app _ _ s x => s.tmps ++ x.tmps
  | .apc os _ _ s x => s.tmps ++ x.tmps ++ os
  | .apz _ _ s x => s.tmps ++ x.tmps
  | .cpi _ _ x => x.tmps
  | .bse => []
  | .ape _ _ v x => v :: x.tmps
  | .ext x _ => x.tmps
  | .pur _ xs => xs.flatMap Opd.tmps
  | .mp _ xs => xs.flatMap Opd.tmps
  | .me _ xs => xs.flatMap Opd.tmps
  | .mki _ x => x.tmps
  | .tas _ _ x => x.tmps
  | .isi _ x => x.tmps
  | .pan x => x.tmps
  | .rcv => []
  | .call _ f xs => f.tmps ++ xs.flatMap Opd.tmps

def Op.uses (o : Op) : List Nat := (match o.grd with | some (g, _) => [g] | none => []) ++ o.k.tmps

def befores : List Oper → List Nat → List Nat
  | [], acc => acc
  | o :: r, acc => befores r (acc ++ [o.after.toList.foldl (fun s e => if Region.binds .any e then s ||| 2 ^ e.on ||| acc.getD e.on 0 else s) 0])

def tailOf (bs : List Nat) : Nat :=
  go bs.length
where
  go : Nat → Nat
    | 0 => 0
    | n + 1 => if bs.getD n 0 = 2 ^ n - 1 then go n else n + 1

def Op.defs (o : Op) : List Nat := o.dst.toList ++ (match o.k with | .stv v _ _ _ _ => [v] | _ => [])

def Op.clash (o p : Op) : Bool :=
  o.defs.any (fun d => p.defs.contains d || p.uses.contains d) || o.uses.any (fun d => p.defs.contains d)

def Op.still (op : Op) : Bool := op.k.calm && op.ntr

def Op.far (o p : Op) : Bool :=
  o.grd.isNone && p.grd.isNone &&
  match o.k, p.k with
  | .stc os _ _ _, .ld _ _ (.t m) => os.contains m
  | .ld _ _ (.t m), .stc os _ _ _ => os.contains m
  | .stc os _ _ _, .stc _ _ (.t m) _ => os.contains m
  | .apc os _ _ _ _, .ld _ _ (.t m) => os.contains m
  | .ld _ _ (.t _), .alc [] _ => true
  | .apc .., .ld0 _ _ (.t _) => true
  | _, _ => false

def Op.adr (o p : Op) : Bool :=
  match o, p with
  | ⟨none, none, _, .stv v [] _ a x⟩, ⟨some d, none, _, .fadr _ (.t m)⟩ => decide (m = v ∧ d ≠ v ∧ d ≠ a ∧ d ∉ x.tmps)
  | _, _ => false

def Op.free (o p : Op) : Bool := o.adr p || (!(o.clash p) && (o.still && p.still || o.k.pure || p.k.pure || o.far p))

def calmC (bs : List Nat) : Nat → List Op → Bool
  | _, [] => true
  | i, o :: r => after i (i + 1) o r && calmC bs (i + 1) r
where
  after (i : Nat) : Nat → Op → List Op → Bool
    | _, _, [] => true
    | j, o, p :: r => (o.free p || (bs.getD j 0).testBit i) && after i (j + 1) o r

def edgesOk : Nat → List Oper → Bool
  | _, [] => true
  | i, o :: r => (o.after.toList.all fun e => !Region.binds .any e || decide (e.on < i)) && edgesOk (i + 1) r

def cutC (live : List Nat) : Option Nat → List Op → Cmd
  | some j, xs => match xs.drop j with
    | x :: r => .treg live (xs.take j) x r
    | [] => .reg live xs
  | none, xs => .reg live xs

def regC (P : Program) (a : Ann) (n : Nat) (id : Nat) (ops : Array Oper) (draw : Bool) : Option Cmd :=
    if draw then
      let bs := befores ops.toList []
      let tail := tailOf bs
      match opsC P a n id ops tail 0 ops.toList with
      | some xs => if calmC bs 0 (xs.take tail) && edgesOk 0 ops.toList && xs.all (fun x => x.k != .rcv) then some (cutC (look id [] a.live) ((look id none a.thr).filter fun j => decide (tail ≤ j)) xs) else none
      | none => none
    else (opsC P a n id ops 0 0 ops.toList).map (cutC (look id [] a.live) (look id none a.thr))

def withFrz (c : Cmd) : List Nat → Cmd
  | [] => c
  | vs => .seq (.frz vs) c

def failC : Cmd := .reg [] [⟨none, none, false, .isn false false (.c .undef)⟩]

def dfrC : Code → Option (Opd × List Opd)
  | .region _ ops false =>
    match ops.toList with
    | [o] => (match o.op, o.dst, o.guard with
      | .defer c, none, none => (match c.callee with
        | .value f => (match opdC f, opdsC c.args.toList with
          | some f', some xs => some (f', xs)
          | _, _ => none)
        | _ => none)
      | _, _, _ => none)
    | _ => none
  | _ => none

def dfrM (P : Program) (a : Ann) (n : Nat) : Code → Option (Cmd × Opd × List Opd)
  | .region id ops false =>
    match ops.toList with
    | [m, o] => (match o.op, o.dst, o.guard, m.dst with
      | .defer c, none, none, some t => (match c.callee with
        | .value f => (match opC P a n id ops false 0 m, opdC f, opdsC c.args.toList with
          | some op, some f', some xs => if op.k = .rcv then none else some (.reg (t :: (xs.flatMap Opd.tmps ++ look id [] a.live)) [op], f', xs)
          | _, _, _ => none)
        | _ => none)
      | _, _, _, _ => none)
    | _ => none
  | _ => none

def mapC (a : Ann) (n : Nat) : Code → Option (Nat × Nat × Nat)
  | .loop (.seq (.region _ ops false) _) =>
    match ops.toList with
    | [o, p] => (match o.op, o.dst, o.guard, p.op, p.dst, p.guard with
      | .next (.tmp it) false, some nx, none, .extract (.tmp nx') 0, some ok, none =>
        if nx' = nx ∧ nx < n ∧ ok < n ∧ nx ≠ ok ∧ nx ∉ a.ownv ∧ ok ∉ a.ownv then some (it, nx, ok) else none
      | _, _, _, _, _, _ => none)
    | _ => none
  | _ => none

def blkC (a : Ann) (n id : Nat) (x : Code) (x' : Cmd) : Cmd :=
  match mapC a n x, x' with
  | some (it, nx, ok), .loop live _ (.seq _ c) => .mloop live (.t it) nx ok id c .nop
  | _, x' => .blk id x'

def seqC (P : Program) (a : Ann) (n : Nat) (x : Code) (x' y' : Cmd) : Cmd :=
  match dfrC x with
  | some (f, xs) => .dfr f xs y'
  | none =>
    match dfrM P a n x with
    | some (c, f, xs) => .seq c (.dfr f xs y')
    | none =>
    match x, x' with
    | .seq _ (.block _ _), .seq p' (.mloop live it nx ok b c .nop) => .seq p' (.mloop live it nx ok b c y')
    | _, _ => .seq x' y'

def scopeC (c : Cmd) : Cmd := match splitT c with | some _ => failC | none => .seq .nop c

def codeC (P : Program) (a : Ann) (n : Nat) (blk : Nat) : Code → Option Cmd
  | .skip => some .nop
  | .region id ops draw => match regC P a n id ops draw with
    | some c => some (withFrz c (look id [] a.fz))
    | none => some failC
  | .seq x y => match codeC P a n blk x, codeC P a n blk y with
    | some x', some y' => some (seqC P a n x x' y')
    | _, _ => none
  | .cond c x y => match opdC c, codeC P a n blk x, codeC P a n blk y with
    | some c', some x', some y' => some (.ite c' x' y')
    | _, _, _ => none
  | .block id x => (codeC P a n id x).map (blkC a n id x)
  | .loop x => (codeC P a n blk x).map (.loop (look blk [] a.llive) (a.seg.contains blk))
  | .rangeFunc f ps x y => match opdC f, codeC P a n blk x, codeC P a n blk y with
    | some f', some x', some y' => if ps.toList.all (fun t => decide (t < n) && !(a.ownv.contains t)) then some (.rngf (look blk [] a.llive) f' ps.toList x' y') else none
    | _, _, _ => none
  | .exit id => some (.exit id)
  | .ret => some .ret
  | .scope x => (codeC P a n blk x).map scopeC
  | .label _ => some .nop
  | _ => some failC

def resC (P : Program) (a : Ann) : ResultVar → Option Res
  | .tmp t => some (.t t)
  | .cell x t => match aggC P t, sizeC P t with
    | some g, some s => if (g || s == 1) && decide (0 < s) then some (if a.ownv.contains x then .v x g s else .c x g s) else none
    | _, _ => none

def ressC (P : Program) (a : Ann) : List ResultVar → Option (List Res)
  | [] => some []
  | r :: rs => match resC P a r, ressC P a rs with
    | some x, some xs => some (x :: xs)
    | _, _ => none

def fnC (P : Program) (a : Ann) (f : Func) : Option Fn :=
  match f.body with
  | some c => match codeC P a f.ntmps 0 c, ressC P a f.results.toList with
    | some c', some rs => if f.params.size + f.nfree ≤ f.ntmps then some { npar := f.params.size + f.nfree, res := rs, body := c' } else none
    | _, _ => none
  | none => none

end Go.Abs

/-
  Reading and writing rows of cells in the model's memory; the model's small questions on types.
-/
namespace Go.Abs
open Go

def Rd (w : World) (b o : Nat) (vs : List Value) : Prop := ∀ (j : Nat) x, vs[j]? = some x → w.cell? ⟨b, o + j, none⟩ = some x

theorem Rd.take {w : World} {b o : Nat} {vs : List Value} (h : Rd w b o vs) (n : Nat) : Rd w b o (vs.take n) := fun j x e => h j x (by
  rw [List.getElem?_take] at e; split at e <;> simp_all)

theorem Rd.drop {w : World} {b o : Nat} {vs : List Value} (h : Rd w b o vs) (n : Nat) : Rd w b (o + n) (vs.drop n) := fun j x e => by
  have := h (n + j) x (by rw [List.getElem?_drop] at e; exact e)
  rw [show o + n + j = o + (n + j) from by omega]; exact this

theorem add_eq (b o n : Nat) : Addr.add ⟨b, o, none⟩ n = ⟨b, o + n, none⟩ := by
  unfold Addr.add; split
  · subst_vars; rfl
  · rfl

section types
variable {P : Program} {t : TypeId}
theorem run_typeInfo {i : TypeInfo} (h : P.info? t = some i) (w : World) : (typeInfo t).run P w = .ok i w := by
  simp [typeInfo, h]
theorem run_sizeOf {s : Nat} (h : sizeC P t = some s) (w : World) : (sizeOf t).run P w = .ok s w := by
  simp only [sizeC, Option.map_eq_some_iff] at h
  obtain ⟨i, hi, rfl⟩ := h
  simp [sizeOf, run_typeInfo hi]
theorem run_under {d : TypeDesc} (h : P.underlying t = some d) (w : World) : (underlying t).run P w = .ok d w := by
  simp [underlying, h]
theorem run_isAgg {b : Bool} (h : aggC P t = some b) (w : World) : (isAgg t).run P w = .ok b w := by
  unfold aggC at h
  cases hu : P.underlying t with
  | none => simp [hu] at h
  | some d =>
    rw [hu] at h
    simp only [isAgg, Sem.run_bind, run_under hu, Result.andThen_ok]
    cases d <;> simp_all
theorem run_zeroValue {z : Value} {i : TypeInfo} (h : P.info? t = some i) (hz : i.zero = some z) (w : World) : (zeroValue t).run P w = .ok z w := by
  simp [zeroValue, run_typeInfo h, hz]
end types

theorem valD_rel (g : G) {v : Value} {d : D} (h : valD v = some d) : RelV g d v ∧ v.oneCell' = true := by
  unfold valD at h
  split at h <;> first | (cases h; exact ⟨by constructor, rfl⟩) | cases h

theorem cellsD_rel (g : G) {vs : List Value} {ds : List D} (h : cellsD vs = some ds) : RelL g ds vs ∧ ∀ x ∈ vs, x.oneCell' = true := by
  induction vs generalizing ds with
  | nil => simp only [cellsD, Option.some.injEq] at h; subst h; exact ⟨.nil, by simp⟩
  | cons v vs ih =>
    simp only [cellsD] at h
    split at h
    · rename_i d ds' h1 h2
      cases h
      obtain ⟨h3, h4⟩ := ih h2
      obtain ⟨h5, h6⟩ := valD_rel g h1
      exact ⟨.cons _ _ _ _ h5 h3, by simp only [List.mem_cons]; rintro x (rfl | hx); exact h6; exact h4 x hx⟩
    · cases h

theorem constD_rel (g : G) {v : Value} {d : D} (h : constD v = some d) : RelV g d v := by
  unfold constD at h
  split at h
  · rename_i cs
    simp only [Option.map_eq_some_iff] at h
    obtain ⟨ds, h1, rfl⟩ := h
    obtain ⟨h2, h3⟩ := cellsD_rel g h1
    exact .agg ds cs h2 h3
  · exact (valD_rel g h).1

theorem zeroC_rel {P : Program} {t : TypeId} (g : G) {z : List D} (h : zeroC P t = some z) : ∃ i v, P.info? t = some i ∧ i.zero = some v ∧ RelL g z v.cells.toList ∧ ∀ x ∈ v.cells.toList, x.oneCell' = true := by
  unfold zeroC at h
  split at h
  · rename_i i hi
    split at h
    · rename_i v hv
      obtain ⟨h2, h3⟩ := cellsD_rel g h
      exact ⟨i, v, hi, hv, h2, h3⟩
    · cases h
  · cases h

theorem run_loadVar {P : Program} {t : TypeId} {w : World} {b o sz : Nat} {ag : Bool} {vs : List Value} (hag : aggC P t = some ag) (hsz : sizeC P t = some sz) (hone : (ag || sz == 1) = true)
    (hr : Rd w b o vs) (hlen : sz ≤ vs.length) :
    ∃ v, (loadVar t ⟨b, o, none⟩).run P w = .ok v w ∧ (if ag then v = .agg (vs.take sz).toArray else ∃ x r, vs = x :: r ∧ v = x) := by
  cases ag with
  | true =>
    have h1 : (loadCells ⟨b, o, none⟩ sz).run P w = .ok (vs.take sz).toArray w := by
      have := run_loadCells_list (P := P) w ⟨b, o, none⟩ (vs.take sz) (fun j v e => by rw [add_eq]; exact hr.take sz j v e)
      rwa [List.length_take, Nat.min_eq_left hlen] at this
    exact ⟨_, by simp [loadVar, run_isAgg hag, run_sizeOf hsz, h1], rfl⟩
  | false =>
    simp only [Bool.false_or, beq_iff_eq] at hone
    subst hone
    cases vs with
    | nil => simp at hlen
    | cons x r =>
      have := hr 0 x rfl
      exact ⟨x, by simp only [Nat.add_zero] at this; simp [loadVar, run_isAgg hag, this], x, r, rfl, rfl⟩

theorem run_storeCells {P : Program} {b : Nat} {el : TypeId} : ∀ (ps : List Value) (w : World) (o i : Nat) (c : Array Value), (∀ x ∈ ps, x.oneCell' = true) →
    w.heap[b]? = some (.cells c el (0, 0)) → o + i + ps.length ≤ c.size →
    ∃ w' c', (storeCells ⟨b, o, none⟩ ps i).run P w = .ok () w' ∧ w'.heap[b]? = some (.cells c' el (0, 0)) ∧ c'.size = c.size ∧
      (∀ j, c'[j]? = if o + i ≤ j ∧ j < o + i + ps.length then ps[j - (o + i)]? else c[j]?) ∧
      (∀ x, x ≠ b → w'.heap[x]? = w.heap[x]?) ∧ w'.heap.size = w.heap.size ∧ w'.os = w.os ∧ w'.tape = w.tape ∧ w'.output = w.output
  | [], w, o, i, c, _, hb, _ => ⟨w, c, by simp [storeCells], hb, rfl, fun j => by rw [if_neg (by simp only [List.length_nil]; omega)], fun _ _ => rfl, rfl, rfl, rfl, rfl⟩
  | p :: ps, w, o, i, c, h1, hb, hl => by
    simp only [List.length_cons] at hl
    have hp := h1 p (by simp)
    have hcell : w.cell? ⟨b, o + i, none⟩ = some (c[o + i]'(by omega)) := by
      simp only [World.cell?, hb]; simp
    have hfz : w.frozen? ⟨b, o + i, none⟩ = false := by simp [World.frozen?, hb]
    have hb1 : (w.setCell ⟨b, o + i, none⟩ p).heap[b]? = some (.cells (c.setIfInBounds (o + i) p) el (0, 0)) := by
      simp [World.setCell, Array.getElem?_modify, hb]
    obtain ⟨w', c', hrun, hb', hs, hc, ho, hsz, e1, e2, e3⟩ := run_storeCells ps (w.setCell ⟨b, o + i, none⟩ p) o (i + 1) (c.setIfInBounds (o + i) p) (fun x hx => h1 x (by simp [hx])) hb1 (by simp; omega)
    refine ⟨w', c', ?_, hb', by simpa using hs, ?_, ?_, by simpa using hsz, e1, e2, e3⟩
    · simp only [storeCells, Sem.run_bind, add_eq, run_store P w _ p .plain hp, hcell, hfz]
      simpa using hrun
    · intro j
      rw [hc j]
      by_cases hj : j = o + i
      · subst hj
        rw [if_neg (by omega), if_pos (by simp)]
        rw [Array.getElem?_setIfInBounds_self_of_lt (by omega)]; simp
      · by_cases hj2 : o + (i + 1) ≤ j ∧ j < o + (i + 1) + ps.length
        · rw [if_pos hj2, if_pos (by simp; omega)]
          rw [show j - (o + i) = (j - (o + (i + 1))) + 1 from by omega]
          simp
        · rw [if_neg hj2, if_neg (by simp; omega)]
          rw [Array.getElem?_setIfInBounds_ne (by omega)]
    · intro x hx
      rw [ho x hx]
      simp only [World.setCell, Array.getElem?_modify]
      rw [if_neg (by simpa using fun e => hx e.symm)]

theorem run_storeVar {P : Program} {t : TypeId} {w : World} {b o sz : Nat} {el : TypeId} {c : Array Value} {v : Value} (hsz : sizeC P t = some sz) (hv : v.cells.size = sz)
    (h1 : ∀ x ∈ v.cells.toList, x.oneCell' = true) (hb : w.heap[b]? = some (.cells c el (0, 0))) (hl : o + sz ≤ c.size) :
    ∃ w' c', (storeVar t ⟨b, o, none⟩ v).run P w = .ok () w' ∧ w'.heap[b]? = some (.cells c' el (0, 0)) ∧ c'.size = c.size ∧
      (∀ j, c'[j]? = if o ≤ j ∧ j < o + sz then v.cells.toList[j - o]? else c[j]?) ∧
      (∀ x, x ≠ b → w'.heap[x]? = w.heap[x]?) ∧ w'.heap.size = w.heap.size ∧ w'.os = w.os ∧ w'.tape = w.tape ∧ w'.output = w.output := by
  obtain ⟨w', c', hrun, rest⟩ := run_storeCells (P := P) (b := b) (el := el) v.cells.toList w o 0 c h1 hb (by simp [hv]; omega)
  refine ⟨w', c', ?_, ?_⟩
  · simp only [storeVar, Sem.run_bind, run_sizeOf hsz, Result.andThen_ok, hv]
    simpa using hrun
  · simpa [hv] using rest

end Go.Abs

/-
  Each operation that is no call, no store into a variable of the frame's own: what the interpreter says is what the model does.
-/
set_option linter.unusedVariables false
set_option linter.unusedSimpArgs false
namespace Go.Abs
open Go

structure OwnB (base : Nat) (g : G) (w : World) (b : Nat) (cs : List D) : Prop where
  lo : base ≤ b
  free : ¬ g.has b
  noimm : ∀ o, g.imm b o = none
  blk : ∃ (c : Array Value) (el : TypeId), w.heap[b]? = some (.cells c el (0, 0)) ∧ RelL g cs c.toList ∧ ∀ x ∈ c.toList, x.oneCell' = true

theorem OwnB.lt {base : Nat} {g : G} {w : World} {b : Nat} {cs : List D} (h : OwnB base g w b cs) : b < w.heap.size := by
  obtain ⟨c, el, hb, _⟩ := h.blk
  exact (Array.getElem?_eq_some_iff.1 hb).1

theorem OwnB.ev {base : Nat} {g g' : G} {w w' : World} {b : Nat} {cs : List D} (h : OwnB base g w b cs) (he : Ev g w g' w') : OwnB base g' w' b cs where
  lo := h.lo
  free := fun hb => by
    rcases he.img b hb with h1 | h1
    · exact h.free h1
    · have := h.lt; omega
  noimm o := by
    cases e : g'.imm b o with
    | none => rfl
    | some v =>
      rcases he.immN b o v e with h1 | h1 | h1
      · rw [h.noimm o] at h1; cases h1
      · exact absurd h1 h.free
      · have := h.lt; omega
  blk := by
    obtain ⟨c, el, hb, hr, h1⟩ := h.blk
    exact ⟨c, el, (he.kept b h.lt h.free).trans hb, hr.mono he.le, h1⟩

def RelT (g : G) (B : Nat → Nat) (e : Env) : D → Value → Prop
  | .own .., _ => False
  | .vr x s off, c => ∃ s' cs b o, get e x = .own s' cs ∧ s ≤ s' ∧ c = .pointer (some ⟨b, o, none⟩) ∧ (s = s' → b = B x ∧ o = off)
  | .emp, c => ∃ a, c = .slice a 0 0
  | d, c => RelV g d c

def RelF (g : G) (B : Nat → Nat) (e : Env) : D → Value → Prop
  | .own .., _ => True
  | d, c => RelT g B e d c

structure Fr (base : Nat) (V : List Nat) (g : G) (w : World) (B : Nat → Nat) (e : Env) (tmps : Array Value) : Prop where
  rel : ∀ t, RelF g B e (get e t) (tmps.getD t Go.undef)
  own : ∀ t s cs, get e t = .own s cs → t ∈ V ∧ tmps.getD t Go.undef = .pointer (some ⟨B t, 0, none⟩) ∧ OwnB base g w (B t) cs
  inj : ∀ t t' s s' cs cs', get e t = .own s cs → get e t' = .own s' cs' → B t = B t' → t = t'

theorem RelT.ev {g g' : G} (h : g.le g') {B : Nat → Nat} {e : Env} {d : D} {c : Value} (hr : RelT g B e d c) : RelT g' B e d c := by
  cases d <;> first | exact hr | exact RelV.mono h hr

theorem RelF.ev {g g' : G} (h : g.le g') {B : Nat → Nat} {e : Env} {d : D} {c : Value} (hr : RelF g B e d c) : RelF g' B e d c := by
  cases d <;> first | exact hr | exact (RelV.mono h (by exact hr) : RelV g' _ c)

theorem Fr.ev {base : Nat} {V : List Nat} {g g' : G} {w w' : World} {B : Nat → Nat} {e : Env} {tmps : Array Value} (h : Fr base V g w B e tmps) (he : Ev g w g' w') : Fr base V g' w' B e tmps where
  rel t := (h.rel t).ev he.le
  own t s cs e1 := let ⟨h1, h2, h3⟩ := h.own t s cs e1; ⟨h1, h2, h3.ev he⟩
  inj := h.inj

section
variable {base fb : Nat} {V : List Nat} {g : G} {w : World} {B : Nat → Nat} {e : Env} {tmps : Array Value} {df : List Deferred}

theorem Fr.strip (h : Fr base V g w B e tmps) (t : Nat) : RelV g (get e t).strip (tmps.getD t Go.undef) := by
  have := h.rel t
  cases hd : get e t <;> rw [hd] at this <;> simp only [D.strip] <;> first | exact this | exact .undef _

theorem Fr.opd (h : Fr base V g w B e tmps) {x : Operand} {X : Opd} (hx : opdC x = some X) : RelV g (opd e X) ((Act.mk tmps df).eval x) := by
  cases x with
  | tmp t => simp only [opdC, Option.some.injEq] at hx; subst hx; exact h.strip t
  | const v =>
    simp only [opdC, Option.map_eq_some_iff] at hx
    obtain ⟨d, hd, rfl⟩ := hx
    exact constD_rel g hd
  | global n => simp [opdC] at hx
  | func f => simp only [opdC, Option.some.injEq] at hx; subst hx; exact .fn f [] [] #[] #[] .nil .nil

theorem Fr.opds (h : Fr base V g w B e tmps) {xs : List Operand} {Xs : List Opd} (hx : opdsC xs = some Xs) : RelL g (Xs.map (Abs.opd e)) (xs.map (Act.mk tmps df).eval) := by
  induction xs generalizing Xs with
  | nil => simp only [opdsC, Option.some.injEq] at hx; subst hx; exact .nil
  | cons x xs ih =>
    simp only [opdsC] at hx
    split at hx
    · rename_i y ys h1 h2
      cases hx
      exact .cons _ _ _ _ (h.opd h1) (ih h2)
    · cases hx
end

def outV : Next → Option Value
  | .value v => some v
  | .skip => some Go.undef
  | _ => none

def Does (P : Program) (CR : CRel) (base : Nat) (g : G) (w : World) (B : Nat → Nat) (e : Env) (ρ : Operand → Value) (o : Oper) (d : D) (σ' : Stack) : Prop :=
  ∃ x c g' w', (execOp ρ o).run P w = .ok x w' ∧ outV x = some c ∧ Ev g w g' w' ∧ Inv CR base g' σ' w' ∧ RelT g' B e d c

theorem Does.pure {P : Program} {CR : CRel} {base : Nat} {g : G} {w : World} {B : Nat → Nat} {e : Env} {ρ : Operand → Value} {o : Oper} {d : D} {σ : Stack} {c : Value}
    (hi : Inv CR base g σ w) (h : (execOp ρ o).run P w = .ok (.value c) w) (hr : RelT g B e d c) : Does P CR base g w B e ρ o d σ :=
  ⟨_, c, g, w, h, rfl, Ev.refl g w, hi, hr⟩

theorem Does.val {P : Program} {CR : CRel} {base : Nat} {g : G} {w : World} {B : Nat → Nat} {e : Env} {ρ : Operand → Value} {o : Oper} {d : D} {σ' : Stack} (c : Value) {g' : G} {w' : World}
    (h : (execOp ρ o).run P w = .ok (.value c) w') (he : Ev g w g' w') (hi : Inv CR base g' σ' w') (hr : RelT g' B e d c) : Does P CR base g w B e ρ o d σ' :=
  ⟨_, c, g', w', h, rfl, he, hi, hr⟩

theorem RelT.of {g : G} {B : Nat → Nat} {e : Env} {d : D} {c : Value} (h : RelV g d c) : RelT g B e d c := by
  cases h <;> (simp only [RelT]; first | (constructor <;> assumption) | (exact .bdv _ _ _ _ (by assumption) (by assumption)))

section inv
variable {g : G}
theorem RelV.int_inv {k : IntKind} {n : Int} {c : Value} (h : RelV g (.int k n) c) : c = .int k n := by cases h; rfl
theorem RelV.bool_inv {b : Bool} {c : Value} (h : RelV g (.bool b) c) : c = .bool b := by cases h; rfl
theorem intD_inv {d : D} {n : Int} {c : Value} (h : RelV g d c) (hn : intD d = some n) : ∃ k, c = .int k n := by
  unfold intD at hn
  split at hn
  · cases hn; exact ⟨_, h.int_inv⟩
  · cases hn
end inv

section ops
variable {P : Program} {CR : CRel} {base fb : Nat} {V : List Nat} {g : G} {σ σ' : Stack} {w : World} {B : Nat → Nat} {e : Env} {tmps : Array Value} {df : List Deferred}
  {a : Ann} {ops : Array Oper} {key : Nat} {k : K} {d : D} {dst : Option Tmp} {ty : TypeId} {pos : String} {after : Array Edge} {grd : Option (Nat × Bool)}

theorem s_move (hf : Fr fb V g w B e tmps) (hi : Inv CR base g σ w) {x : Operand} {X : Opd} (hx : opdC x = some X) (h : sop e σ (.mv X) = some (d, σ')) (o : Oper) (ho : o.op = .move x ∨ o.op = .assign x) :
    Does P CR base g w B e (Act.mk tmps df).eval o d σ' := by
  simp only [sop, Option.some.injEq, Prod.mk.injEq] at h
  obtain ⟨rfl, rfl⟩ := h
  refine .pure hi (c := (Act.mk tmps df).eval x) ?_ (RelT.of (hf.opd hx))
  rcases ho with ho | ho <;> simp [execOp, ho]

theorem s_nilb (hi : Inv CR base g σ w) {n : Nat} (h : sop e σ (.nilb n) = some (d, σ')) (o : Oper) (ho : o.op = .assign (.const (.slice none 0 0))) :
    Does P CR base g w B e (Act.mk tmps df).eval o d σ' := by
  simp only [sop, Option.bind_eq_bind] at h
  cases hn : newBlk σ (.cells 0 []) with
  | none => simp [hn] at h
  | some x =>
    obtain ⟨l, i, σ1⟩ := x
    simp only [hn, Option.bind_some, Option.some.injEq, Prod.mk.injEq] at h
    obtain ⟨rfl, rfl⟩ := h
    obtain ⟨h1, h2⟩ := hi.newVirt hn
    refine .val (.slice none 0 0) (by simp [execOp, ho, Act.eval]) h2 h1 ?_
    exact .sl l i 0 0 0 n none 0 (.virt 0) G.setLoc_same (Nat.le_refl _) (by omega) (fun _ => rfl) (fun _ hh => by cases hh) (fun _ _ _ hh => by cases hh) (fun _ => rfl)

theorem s_pick (hf : Fr fb V g w B e tmps) (hi : Inv CR base g σ w) {c x y : Operand} {C X Y : Opd} (hc : opdC c = some C) (hx : opdC x = some X) (hy : opdC y = some Y)
    (h : sop e σ (.pick C X Y) = some (d, σ')) (o : Oper) (ho : o.op = .pick c x y) : Does P CR base g w B e (Act.mk tmps df).eval o d σ' := by
  simp only [sop] at h
  split at h
  · rename_i t ht
    simp only [Option.some.injEq, Prod.mk.injEq] at h
    obtain ⟨rfl, rfl⟩ := h
    have h1 := hf.opd (df := df) hc
    rw [ht] at h1
    have h2 := h1.bool_inv
    cases t
    · exact .pure hi (c := (Act.mk tmps df).eval y) (by simp [execOp, ho, h2, asBool]) (RelT.of (hf.opd hy))
    · exact .pure hi (c := (Act.mk tmps df).eval x) (by simp [execOp, ho, h2, asBool]) (RelT.of (hf.opd hx))
  · cases h

theorem s_boxi (hf : Fr fb V g w B e tmps) (hi : Inv CR base g σ w) {x : Operand} {X : Opd} {t : TypeId} (hx : opdC x = some X) (h : sop e σ (.boxi X) = some (d, σ')) (o : Oper) (ho : o.op = .box t x) :
    Does P CR base g w B e (Act.mk tmps df).eval o d σ' := by
  simp only [sop, Option.map_eq_some_iff] at h
  obtain ⟨cs, hcs, h⟩ := h
  simp only [Prod.mk.injEq] at h
  obtain ⟨rfl, rfl⟩ := h
  obtain ⟨hr, h1⟩ := (hf.opd (df := df) hx).cells hcs
  obtain ⟨i1, i2, i3⟩ := hi.newImm ((Act.mk tmps df).eval x).cells.toList ((Act.mk tmps df).eval x).cells t (fun j y hy => ⟨by simpa using hy, h1 y (List.mem_of_getElem? hy)⟩)
  refine .val (.pointer (some ⟨w.heap.size, 0, none⟩)) (by simp [execOp, ho, Instr.box, newVar, newRow]) i2 i1 ?_
  exact .cref cs _ _ _ i3 (hr.mono i2.le)

theorem s_boxm (hf : Fr fb V g w B e tmps) (hi : Inv CR base g σ w) {x : Operand} {X : Opd} {t : TypeId} (hx : opdC x = some X) (h : sop e σ (.boxm X) = some (d, σ')) (o : Oper) (ho : o.op = .box t x) :
    Does P CR base g w B e (Act.mk tmps df).eval o d σ' := by
  simp only [sop, Option.bind_eq_bind, Option.bind_eq_some_iff] at h
  obtain ⟨cs, hcs, ⟨l, i, σ1⟩, hn, h⟩ := h
  simp only [Option.some.injEq, Prod.mk.injEq] at h
  obtain ⟨rfl, rfl⟩ := h
  obtain ⟨hr, h1⟩ := (hf.opd (df := df) hx).cells hcs
  obtain ⟨i1, i2⟩ := hi.newCells hn ((Act.mk tmps df).eval x).cells.toList ((Act.mk tmps df).eval x).cells t hr (by simp) (fun j y hy => ⟨by simpa using hy, h1 y (List.mem_of_getElem? hy)⟩)
  refine .val (.pointer (some ⟨w.heap.size, 0, none⟩)) (by simp [execOp, ho, Instr.box, newVar, newRow]) i2 i1 ?_
  exact .ref l i 0 0 _ _ _ G.setLoc_same (Nat.le_refl _) (fun blk bo sz hh => by cases hh; exact ⟨rfl, rfl⟩) (by simp)


theorem addr_of {g : G} {CR : CRel} {base : Nat} {σ : Stack} {w : World} (hi : Inv CR base g σ w) {d : D} {c : Value} (hr : RelV g d c) {cs : List D}
    (h : rdD σ d = some cs) :
    cs = [] ∨ ∃ b o vs, c = .pointer (some ⟨b, o, none⟩) ∧ Rd w b o vs ∧ RelL g cs vs ∧ ∀ x ∈ vs, x.oneCell' = true := by
  cases d with
  | cref cs' =>
    simp only [rdD, Option.some.injEq] at h; subst h
    cases hr with
    | cref _ b o vs h1 h2 =>
      refine .inr ⟨b, o, vs, rfl, fun j x e => (hi.imm _ _ _ (h1 j x e)).1, h2, fun x hx => ?_⟩
      obtain ⟨j, hj⟩ := List.getElem?_of_mem hx
      exact (hi.imm _ _ _ (h1 j x hj)).2
  | ref l i v off =>
    simp only [rdD, Option.map_eq_some_iff] at h
    obtain ⟨cs0, h0, rfl⟩ := h
    cases hr with
    | ref _ _ _ _ b1 o1 L hl hv hc hnv =>
      unfold cells? at h0
      split at h0
      · rename_i v' cs1 hb
        split at h0
        · rename_i hv'; subst hv'
          cases h0
          obtain ⟨b, hb', hrel⟩ := hi.dom l i L hl
          rw [hb] at hb'; cases hb'
          cases L with
          | «at» blk bo ver sz =>
            obtain ⟨rfl, ca, el, hheap, hsz, hlen, vs, hrl, hvs⟩ := hrel
            obtain ⟨rfl, rfl⟩ := hc blk bo sz rfl
            refine .inr ⟨b1, bo + off, vs.drop off, rfl, ?_, hrl.drop off, fun x hx => ?_⟩
            · refine Rd.drop (fun j x e => ?_) off
              simp only [World.cell?, hheap]
              simpa using (hvs j x e).1
            · obtain ⟨j, hj⟩ := List.getElem?_of_mem (List.mem_of_mem_drop hx)
              exact (hvs j x hj).2
          | virt ver =>
            obtain ⟨_, rfl⟩ := hrel
            exact .inl (by simp)
          | dead => exact hrel.elim
          | lp x => exact hrel.elim
          | mp x => exact hv.elim
          | it x => exact hv.elim
          | ob x _ => exact hv.elim
        · cases h0
      · cases h0
  | _ => simp [rdD] at h

theorem s_ld (hf : Fr fb V g w B e tmps) (hi : Inv CR base g σ w) {x : Operand} {X : Opd} {t : TypeId} {ag : Bool} {sz : Nat} (hx : opdC x = some X)
    (hag : aggC P t = some ag) (hsz : sizeC P t = some sz) (hone : (ag || sz == 1) = true) (hpos : 0 < sz) (h : sop e σ (.ld ag sz X) = some (d, σ')) (o : Oper) (ho : o.op = .load t x) :
    Does P CR base g w B e (Act.mk tmps df).eval o d σ' := by
  simp only [sop] at h
  split at h
  case h_2 => cases h
  rename_i cs hcs
  split at h
  · rename_i hlen
    rcases addr_of hi (hf.opd (df := df) hx) hcs with rfl | ⟨b, off, vs, hc, hrd, hrl, h1⟩
    · simp at hlen; omega
    · obtain ⟨v, hv, hv2⟩ := run_loadVar hag hsz hone hrd (by rw [← hrl.length]; exact hlen)
      have hrun : (execOp (Act.mk tmps df).eval o).run P w = .ok (.value v) w := by
        simp [execOp, ho, hc, Instr.loadAt, Instr.sureAddr, hv]
      cases ag with
      | true =>
        simp only [if_true, Option.some.injEq, Prod.mk.injEq] at h
        obtain ⟨rfl, rfl⟩ := h
        simp only [if_true] at hv2; subst hv2
        refine .pure hi hrun (RelT.of (.agg _ _ (by simpa using hrl.take sz) fun y hy => h1 y (List.mem_of_mem_take (by simpa using hy))))
      | false =>
        simp only [Bool.false_eq_true, if_false] at h hv2
        obtain ⟨y, r, rfl, rfl⟩ := hv2
        cases cs with
        | nil => simp at hlen; omega
        | cons d0 cs =>
          simp only [Option.some.injEq, Prod.mk.injEq] at h
          obtain ⟨rfl, rfl⟩ := h
          cases hrl with
          | cons _ _ _ _ ha hb => exact .pure hi hrun (RelT.of ha)
  · cases h

theorem s_ldv (hf : Fr fb V g w B e tmps) (hi : Inv CR base g σ w) {v x : Nat} {t : TypeId} {ag : Bool} {sz : Nat}
    (hag : aggC P t = some ag) (hsz : sizeC P t = some sz) (hone : (ag || sz == 1) = true) (hpos : 0 < sz) (h : sop e σ (.ldv v ag sz x) = some (d, σ')) (o : Oper) (ho : o.op = .load t (.tmp x)) :
    Does P CR base g w B e (Act.mk tmps df).eval o d σ' := by
  simp only [sop] at h
  split at h
  · rename_i s cs off hin
    have hvar : get e v = .own s cs ∧ tmps.getD x Go.undef = .pointer (some ⟨B v, off, none⟩) := by
      unfold inVar at hin
      split at hin
      · rename_i s' cs' hg
        obtain ⟨_, hp, _⟩ := hf.own v s' cs' hg
        split at hin
        · rename_i hxv; subst hxv
          cases hin
          exact ⟨hg, hp⟩
        · split at hin
          · rename_i x' s2 off2 hg2
            split at hin
            · rename_i hc
              obtain ⟨rfl, rfl⟩ := hc
              cases hin
              have := hf.rel x
              rw [hg2] at this
              obtain ⟨s3, cs3, b3, o3, e1, _, e2, e3⟩ := this
              rw [hg] at e1; cases e1
              obtain ⟨rfl, rfl⟩ := e3 rfl
              exact ⟨hg, e2⟩
            · cases hin
          · cases hin
      · cases hin
    obtain ⟨hg, hp⟩ := hvar
    obtain ⟨_, _, hob⟩ := hf.own v s cs hg
    obtain ⟨ca, el, hheap, hrl, h1⟩ := hob.blk
    have hrd : Rd w (B v) off (ca.toList.drop off) := by
      have : Rd w (B v) 0 ca.toList := fun j y ey => by simp only [World.cell?, hheap]; simpa using ey
      simpa using this.drop off
    have hrl' := hrl.drop off
    split at h
    · rename_i hlen
      obtain ⟨u, hv, hv2⟩ := run_loadVar hag hsz hone hrd (by rw [← hrl'.length]; exact hlen)
      have hrun : (execOp (Act.mk tmps df).eval o).run P w = .ok (.value u) w := by
        simp only [execOp, ho, Act.eval, hp]
        simp [Instr.loadAt, Instr.sureAddr, hv]
      cases ag with
      | true =>
        simp only [if_true, Option.some.injEq, Prod.mk.injEq] at h
        obtain ⟨rfl, rfl⟩ := h
        simp only [if_true] at hv2; subst hv2
        exact .pure hi hrun (RelT.of (.agg _ _ (by simpa using hrl'.take sz) fun y hy => h1 y (List.mem_of_mem_drop (List.mem_of_mem_take (by simpa using hy)))))
      | false =>
        simp only [Bool.false_eq_true, if_false] at h hv2
        obtain ⟨y, r, hy, rfl⟩ := hv2
        rw [hy] at hrl'
        revert h hlen hrl'
        generalize cs.drop off = cs'
        intro hlen h hrl'
        cases cs' with
        | nil => simp at hlen; omega
        | cons d0 cs' =>
          simp only [Option.some.injEq, Prod.mk.injEq] at h
          obtain ⟨rfl, rfl⟩ := h
          cases hrl' with
          | cons _ _ _ _ ha hb => exact .pure hi hrun (RelT.of ha)
    · cases h
  · cases h

theorem s_un (hf : Fr fb V g w B e tmps) (hi : Inv CR base g σ w) {x : Operand} {X : Opd} {t : TypeId} {b : UnOp} (hx : opdC x = some X) (h : sop e σ (.un b X) = some (d, σ')) (o : Oper) (ho : o.op = .unOp b t x) :
    Does P CR base g w B e (Act.mk tmps df).eval o d σ' := by
  have hr := hf.opd (df := df) hx
  simp only [sop] at h
  split at h
  · rename_i b' hb
    cases h
    rw [hb] at hr; have hc := hr.bool_inv
    exact .pure hi (c := .bool !b') (by simp [execOp, ho, hc, Op.unary]) (RelT.of (.bool _))
  · rename_i k n hb
    cases h
    rw [hb] at hr; have hc := hr.int_inv
    exact .pure hi (c := .int k (k.wrap (0 - n))) (by simp [execOp, ho, hc, Op.unary, Op.intArith]) (RelT.of (.int _ _))
  · rename_i k n hb
    cases h
    rw [hb] at hr; have hc := hr.int_inv
    exact .pure hi (c := .int k (k.wrap ((BitVec.ofInt k.bits (if k.signed then -1 else k.max) ^^^ BitVec.ofInt k.bits n).toNat : Int))) (by simp [execOp, ho, hc, Op.unary, Op.intBits]) (RelT.of (.int _ _))
  · cases h

theorem s_cvt (hf : Fr fb V g w B e tmps) (hi : Inv CR base g σ w) {x : Operand} {X : Opd} {s t : TypeId} {k0 k : IntKind} (hx : opdC x = some X) (hs : P.underlying s = some (.int k0)) (ht : P.underlying t = some (.int k))
    (h : sop e σ (.cvt k X) = some (d, σ')) (o : Oper) (ho : o.op = .convert s t x) : Does P CR base g w B e (Act.mk tmps df).eval o d σ' := by
  have hr := hf.opd (df := df) hx
  simp only [sop] at h
  split at h
  · rename_i k' n hb
    cases h
    rw [hb] at hr; have hc := hr.int_inv
    exact .pure hi (c := .int k (k.wrap n)) (by simp [execOp, ho, hc, convert, run_under hs, run_under ht, Conv.intToInt]) (RelT.of (.int _ _))
  · cases h

theorem s_mkf (hf : Fr fb V g w B e tmps) (hi : Inv CR base g σ w) {f : FuncId} {xs ys : Array Operand} {Xs Ys : List Opd} (hx : opdsC xs.toList = some Xs) (hy : opdsC ys.toList = some Ys)
    (h : sop e σ (.mkf f Xs Ys) = some (d, σ')) (o : Oper) (ho : o.op = .makeFunc (.func f) xs ys) : Does P CR base g w B e (Act.mk tmps df).eval o d σ' := by
  simp only [sop] at h
  cases h
  refine .pure hi (c := .func (.func f) (xs.map (Act.mk tmps df).eval) (ys.map (Act.mk tmps df).eval)) (by simp [execOp, ho, Instr.makeFunc]) (RelT.of (.fn f _ _ _ _ ?_ ?_))
  · simpa using hf.opds (df := df) hx
  · simpa using hf.opds (df := df) hy

theorem s_ext (hf : Fr fb V g w B e tmps) (hi : Inv CR base g σ w) {x : Operand} {X : Opd} {i : Nat} (hx : opdC x = some X) (h : sop e σ (.ext X i) = some (d, σ')) (o : Oper) (ho : o.op = .extract x i) :
    Does P CR base g w B e (Act.mk tmps df).eval o d σ' := by
  have hr := hf.opd (df := df) hx
  simp only [sop] at h
  split at h
  · rename_i ds hb
    simp only [Option.map_eq_some_iff] at h
    obtain ⟨d0, hd, h⟩ := h
    cases h
    rw [hb] at hr
    generalize hcv : (Act.mk tmps df).eval x = cv at hr
    cases hr with
    | tup _ cs hrl =>
      obtain ⟨c, hc, hrc⟩ := hrl.get hd
      refine .pure hi (c := c) ?_ (RelT.of hrc)
      have : cs[i]? = some c := by simpa using hc
      simp [execOp, ho, hcv, Instr.extract, this]
  · cases h

theorem s_len (hf : Fr fb V g w B e tmps) (hi : Inv CR base g σ w) {x : Operand} {X : Opd} {t el : TypeId} {args : Array Operand} {ts : Array TypeId} {r : List Operand} {tr : List TypeId} (hx : opdC x = some X)
    (ht : P.underlying t = some (.slice el)) (ha : args.toList = x :: r) (hts : ts.toList = t :: tr)
    (h : sop e σ (.lenS X) = some (d, σ')) (o : Oper) (ho : o.op = .call { callee := .builtin .len, args, argTypes := ts }) : Does P CR base g w B e (Act.mk tmps df).eval o d σ' := by
  have hr := hf.opd (df := df) hx
  obtain rfl : args = (x :: r).toArray := by rw [← ha]
  obtain rfl : ts = (t :: tr).toArray := by rw [← hts]
  have key : ∀ (a0 : Option Addr) (n c : Nat), (Act.mk tmps df).eval x = .slice a0 n c → (execOp (Act.mk tmps df).eval o).run P w = .ok (.value (.int .i64 n)) w := by
    intro a0 n c he
    simp [execOp, ho, resolve, invoke, builtin, Builtin.len_, he, run_under ht, goInt]
  simp only [sop] at h
  split at h
  · rename_i hb
    cases h
    rw [hb] at hr
    generalize hcv : (Act.mk tmps df).eval x = cv at hr
    cases hr
    exact .pure hi (key _ _ _ hcv) (RelT.of (.int _ _))
  · rename_i n cs hb
    cases h
    rw [hb] at hr
    generalize hcv : (Act.mk tmps df).eval x = cv at hr
    cases hr with
    | lstn => exact .pure hi (key _ _ _ hcv) (RelT.of (.int _ _))
    | lst _ _ a0 cap vs => exact .pure hi (key _ _ _ hcv) (RelT.of (.int _ _))
  · rename_i l i v off n w' hb
    cases h
    rw [hb] at hr
    generalize hcv : (Act.mk tmps df).eval x = cv at hr
    cases hr
    exact .pure hi (key _ _ _ hcv) (RelT.of (.int _ _))
  · cases h

end ops
end Go.Abs

/-
  More operations: arithmetic, fields, indexes, slices, composites.
-/
set_option linter.unusedVariables false
set_option linter.unusedSimpArgs false
namespace Go.Abs
open Go

section ops
variable {P : Program} {CR : CRel} {base fb : Nat} {V : List Nat} {g : G} {σ σ' : Stack} {w : World} {B : Nat → Nat} {e : Env} {tmps : Array Value} {df : List Deferred}
  {d : D}

theorem s_bin (hf : Fr fb V g w B e tmps) (hi : Inv CR base g σ w) {x y : Operand} {X Y : Opd} {t u : TypeId} {b : BinOp} (hx : opdC x = some X) (hy : opdC y = some Y)
    (h : sop e σ (.bin b X Y) = some (d, σ')) (o : Oper) (ho : o.op = .binOp b t x y u) : Does P CR base g w B e (Act.mk tmps df).eval o d σ' := by
  have hr := hf.opd (df := df) hx
  have hr' := hf.opd (df := df) hy
  simp only [sop, Option.map_eq_some_iff] at h
  obtain ⟨d0, hb, h⟩ := h
  cases h
  generalize hX : opd e X = dx at hr hb
  generalize hY : opd e Y = dy at hr' hb
  unfold binD at hb
  split at hb
  · rename_i k a k' c
    have e1 := hr.int_inv
    have e2 := hr'.int_inv
    cases b <;> simp only [] at hb <;> (try split at hb) <;> first
      | (cases hb; done)
      | (rename_i hc; first | (obtain ⟨rfl, hc0⟩ := hc) | (subst hc) | skip
         cases hb
         refine .pure hi ?_ (RelT.of (by constructor))
         simp [execOp, ho, e1, e2, eqGuard, binOp, Op.intArith, Op.intDiv, Op.intBits, Op.intCmp, Op.shift, *] <;> omega)
      | (rename_i hc; first | (obtain ⟨rfl, hc0⟩ := hc) | (subst hc) | skip
         cases hb
         refine .pure hi ?_ (RelT.of (by constructor))
         simp [execOp, ho, e1, e2, eqGuard, binOp, Op.intArith, Op.intDiv, Op.intBits, Op.intCmp, Op.shift, *])
  · cases hb

theorem s_fadr (hf : Fr fb V g w B e tmps) (hi : Inv CR base g σ w) {x : Operand} {X : Opd} {s : TypeId} {fs : Array Field} {i off sz : Nat} (hx : opdC x = some X) (hs : P.underlying s = some (.struct fs))
    (hfc : fieldsC P fs i = some (off, sz)) (hsz : 0 < sz) (h : sop e σ (.fadr off X) = some (d, σ')) (o : Oper) (ho : o.op = .fieldAddr s x i) : Does P CR base g w B e (Act.mk tmps df).eval o d σ' := by
  unfold fieldsC at hfc
  split at hfc
  case h_2 => cases hfc
  rename_i f hfi
  simp only [Option.map_eq_some_iff, Prod.mk.injEq] at hfc
  obtain ⟨sz', hsz', rfl, rfl⟩ := hfc
  have hrun : ∀ (b o' : Nat), (Act.mk tmps df).eval x = .pointer (some ⟨b, o', none⟩) → (execOp (Act.mk tmps df).eval o).run P w = .ok (.value (.pointer (some ⟨b, o' + f.offset, none⟩))) w := by
    intro b o' he
    have : sz' ≠ 0 := by omega
    simp [execOp, ho, Instr.fieldAt, run_under hs, hfi, he, Instr.sureAddr, fieldPlace, run_sizeOf hsz', this, add_eq]
  simp only [sop] at h
  split at h
  case h_2 => cases h
  rename_i n
  cases x with
  | tmp t =>
    simp only [opdC, Option.some.injEq, Opd.t.injEq] at hx
    subst hx
    have hr := hf.rel t
    split at h
    · rename_i cs hg
      cases h
      rw [hg] at hr
      generalize hcv : tmps.getD t Go.undef = cv at hr
      cases hr with
      | cref _ b o' vs h1 h2 =>
        refine .pure hi (hrun b o' hcv) (RelT.of (.cref _ b (o' + f.offset) (vs.drop f.offset) ?_ (h2.drop _)))
        intro j v hj
        rw [List.getElem?_drop] at hj
        have := h1 _ v hj
        rwa [show o' + f.offset + j = o' + (f.offset + j) from by omega]
    · rename_i l j v o' hg
      cases h
      rw [hg] at hr
      generalize hcv : tmps.getD t Go.undef = cv at hr
      cases hr with
      | ref _ _ _ _ b o1 L h1 h2 h3 h4 =>
        refine .pure hi (hrun b o1 hcv) (RelT.of (.ref l j v _ b _ L h1 h2 (fun blk bo sz hL => ?_) h4))
        obtain ⟨rfl, rfl⟩ := h3 blk bo sz hL
        exact ⟨rfl, by omega⟩
    · rename_i s' cs hg
      cases h
      obtain ⟨_, hp, _⟩ := hf.own t s' cs hg
      exact .pure hi (hrun (B t) 0 hp) ⟨s', cs, _, _, hg, Nat.le_refl _, rfl, fun _ => by simp⟩
    · rename_i v s' o' hg
      cases h
      rw [hg] at hr
      obtain ⟨s2, cs, b1, o1, hg2, hle, hp, hv⟩ := hr
      refine .pure hi (hrun b1 o1 hp) ⟨s2, cs, _, _, hg2, hle, rfl, fun hss => ?_⟩
      obtain ⟨rfl, rfl⟩ := hv hss
      exact ⟨rfl, rfl⟩
    · cases h
  | const v => simp only [opdC, Option.map_eq_some_iff] at hx; obtain ⟨_, _, hx⟩ := hx; cases hx
  | global n => cases hx
  | func f => cases hx


theorem row_drop {g : G} {b o : Nat} {vs : List Value} (h : g.row b o vs) (n : Nat) : g.row b (o + n) (vs.drop n) := fun j v e => by
  rw [List.getElem?_drop] at e
  have := h _ v e
  rwa [show o + n + j = o + (n + j) from by omega]

theorem row_take {g : G} {b o : Nat} {vs : List Value} (h : g.row b o vs) (n : Nat) : g.row b o (vs.take n) := fun j v e => by
  rw [List.getElem?_take] at e
  split at e
  · exact h _ v e
  · cases e

theorem s_idxA (hf : Fr fb V g w B e tmps) (hi : Inv CR base g σ w) {x y : Operand} {X Y : Opd} {t el : TypeId} {n wd : Nat} (hx : opdC x = some X) (hy : opdC y = some Y) (ht : P.underlying t = some (.array n el))
    (hw : sizeC P el = some wd) (h : sop e σ (.idxA n wd X Y) = some (d, σ')) (o : Oper) (ho : o.op = .indexAddr t x y) : Does P CR base g w B e (Act.mk tmps df).eval o d σ' := by
  simp only [sop] at h
  split at h
  case h_2 => cases h
  rename_i m iv hiv
  obtain ⟨k, hky⟩ := intD_inv (hf.opd (df := df) hy) hiv
  split at h
  case isFalse => cases h
  rename_i hb
  have hrun : ∀ (b o' : Nat), (Act.mk tmps df).eval x = .pointer (some ⟨b, o', none⟩) → (execOp (Act.mk tmps df).eval o).run P w = .ok (.value (.pointer (some ⟨b, o' + iv.toNat * wd, none⟩))) w := by
    intro b o' he
    simp [execOp, ho, Instr.indexAt, hky, asIntOf, he, Instr.sureAddr, run_under ht, hb, run_sizeOf hw, add_eq]
  cases x with
  | tmp t' =>
    simp only [opdC, Option.some.injEq, Opd.t.injEq] at hx
    subst hx
    have hr := hf.rel t'
    split at h
    · rename_i cs hg
      cases h
      rw [hg] at hr
      generalize hcv : tmps.getD t' Go.undef = cv at hr
      cases hr with
      | cref _ b o' vs h1 h2 => exact .pure hi (hrun b o' hcv) (RelT.of (.cref _ b _ _ (row_take (row_drop h1 _) _) ((h2.drop _).take _)))
    · rename_i l j v o' hg
      cases h
      rw [hg] at hr
      generalize hcv : tmps.getD t' Go.undef = cv at hr
      cases hr with
      | ref _ _ _ _ b o1 L h1 h2 h3 h4 =>
        refine .pure hi (hrun b o1 hcv) (RelT.of (.ref l j v _ b _ L h1 h2 (fun blk bo sz hL => ?_) h4))
        obtain ⟨rfl, rfl⟩ := h3 blk bo sz hL
        exact ⟨rfl, by omega⟩
    · rename_i s' cs hg
      cases h
      obtain ⟨_, hp, _⟩ := hf.own t' s' cs hg
      exact .pure hi (hrun (B t') 0 hp) ⟨s', cs, _, _, hg, Nat.le_refl _, rfl, fun _ => by simp⟩
    · rename_i v s' o' hg
      cases h
      rw [hg] at hr
      obtain ⟨s2, cs, b1, o1, hg2, hle, hp, hv⟩ := hr
      refine .pure hi (hrun b1 o1 hp) ⟨s2, cs, _, _, hg2, hle, rfl, fun hss => ?_⟩
      obtain ⟨rfl, rfl⟩ := hv hss
      exact ⟨rfl, rfl⟩
    · cases h
  | const v => simp only [opdC, Option.map_eq_some_iff] at hx; obtain ⟨_, _, hx⟩ := hx; cases hx
  | global n => cases hx
  | func f => cases hx

theorem s_idxS (hf : Fr fb V g w B e tmps) (hi : Inv CR base g σ w) {x y : Operand} {X Y : Opd} {t el : TypeId} {wd : Nat} (hx : opdC x = some X) (hy : opdC y = some Y) (ht : P.underlying t = some (.slice el))
    (hw : sizeC P el = some wd) (h : sop e σ (.idxS wd X Y) = some (d, σ')) (o : Oper) (ho : o.op = .indexAddr t x y) : Does P CR base g w B e (Act.mk tmps df).eval o d σ' := by
  have hr := hf.opd (df := df) hx
  have hrun : ∀ (a : Addr) (n c : Nat) (iv : Int) (k : IntKind), (Act.mk tmps df).eval y = .int k iv → (Act.mk tmps df).eval x = .slice (some a) n c → a.spot = none → 0 ≤ iv ∧ iv < n →
      (execOp (Act.mk tmps df).eval o).run P w = .ok (.value (.pointer (some ⟨a.block, a.off + iv.toNat * wd, none⟩))) w := by
    intro a n c iv k hy he hs hb
    obtain ⟨b, o', sp⟩ := a
    simp only at hs; subst hs
    simp [execOp, ho, Instr.indexAt, hy, asIntOf, he, run_under ht, hb, run_sizeOf hw, add_eq]
  simp only [sop] at h
  split at h
  · rename_i m cs iv hX hiv
    obtain ⟨k, hky⟩ := intD_inv (hf.opd (df := df) hy) hiv
    split at h
    case isFalse => cases h
    rename_i hb
    cases h
    rw [hX] at hr
    generalize hcv : (Act.mk tmps df).eval x = cv at hr
    cases hr with
    | lstn => omega
    | lst _ _ a cap vs h1 h2 h3 h4 =>
      exact .pure hi (hrun _ _ _ _ _ hky hcv (h3 (by omega)) hb) (RelT.of (.cref _ _ _ _ (row_take (row_drop h2 _) _) ((h4.drop _).take _)))
  · rename_i l j v off m w' iv hX hiv
    obtain ⟨k, hky⟩ := intD_inv (hf.opd (df := df) hy) hiv
    split at h
    case isFalse => cases h
    rename_i hb
    obtain ⟨hb1, hb2, rfl⟩ := hb
    cases h
    rw [hX] at hr
    generalize hcv : (Act.mk tmps df).eval x = cv at hr
    cases hr with
    | sl _ _ _ _ _ _ a cap L h1 h2 h3 h4 h5 h6 h7 =>
      cases a with
      | none => have := h4 rfl; omega
      | some a =>
        have hsp := h5 a rfl (by omega)
        refine .pure hi (hrun _ _ _ _ _ hky hcv hsp ⟨hb1, hb2⟩) (RelT.of (.ref l j v _ _ _ L h1 h2 (fun blk bo sz hL => ?_) (fun hL => by cases h7 hL)))
        rcases h6 blk bo sz hL with ⟨h8, _⟩ | h8
        · cases h8; exact ⟨rfl, by simp only []; omega⟩
        · omega
  · cases h


theorem part_run {t : TypeId} {ag : Bool} {sz : Nat} {cs : Array Value} {off : Nat} (hag : aggC P t = some ag) (hsz : sizeC P t = some sz) {ds : List D} (hr : RelL g ds cs.toList) (h1 : ∀ x ∈ cs.toList, x.oneCell' = true)
    (hlen : off + sz ≤ ds.length) (hd : (if ag then some (.agg ((ds.drop off).take sz)) else ds[off]?) = some d) : ∃ c, (part t cs off).run P w = .ok c w ∧ RelV g d c := by
  cases ag with
  | true =>
    simp only [if_true, Option.some.injEq] at hd; subst hd
    refine ⟨.agg (cs.extract off (off + sz)), by simp [part, run_isAgg hag, run_sizeOf hsz], .agg _ _ ?_ ?_⟩
    · have : (cs.extract off (off + sz)).toList = (cs.toList.drop off).take sz := by simp [List.drop_take]
      rw [this]; exact (hr.drop off).take sz
    · intro x hx
      have : (cs.extract off (off + sz)).toList = (cs.toList.drop off).take sz := by simp [List.drop_take]
      rw [this] at hx
      exact h1 x (List.mem_of_mem_drop (List.mem_of_mem_take hx))
  | false =>
    simp only [Bool.false_eq_true, if_false] at hd
    obtain ⟨c, hc, hrc⟩ := hr.get hd
    have : cs[off]? = some c := by simpa using hc
    exact ⟨c, by simp [part, run_isAgg hag, this], hrc⟩

theorem s_fld (hf : Fr fb V g w B e tmps) (hi : Inv CR base g σ w) {x : Operand} {X : Opd} {s : TypeId} {fs : Array Field} {f : Field} {i : Nat} {ag : Bool} {sz : Nat} (hx : opdC x = some X)
    (hs : P.underlying s = some (.struct fs)) (hfi : fs[i]? = some f) (hag : aggC P f.type = some ag) (hsz : sizeC P f.type = some sz)
    (h : sop e σ (.fld ag f.offset sz X) = some (d, σ')) (o : Oper) (ho : o.op = .field s x i) : Does P CR base g w B e (Act.mk tmps df).eval o d σ' := by
  have hr := hf.opd (df := df) hx
  simp only [sop] at h
  split at h
  · rename_i cs hX
    rw [hX] at hr
    generalize hcv : (Act.mk tmps df).eval x = cv at hr
    cases hr with
    | agg _ ca hrl h1 =>
      split at h
      case isFalse => cases h
      rename_i hlen
      have h2 : (if ag then some (.agg ((cs.drop f.offset).take sz)) else cs[f.offset]?) = some d ∧ σ = σ' := by
        cases ag with
        | true => simp_all
        | false =>
          simp only [Bool.false_eq_true, if_false, Option.map_eq_some_iff, Prod.mk.injEq] at h
          obtain ⟨a, h3, rfl, rfl⟩ := h
          exact ⟨h3, rfl⟩
      obtain ⟨h2, rfl⟩ := h2
      obtain ⟨c, hrun, hrc⟩ := part_run (P := P) (w := w) hag hsz hrl h1 hlen h2
      exact .pure hi (c := c) (by simp [execOp, ho, Instr.field, run_under hs, hfi, hcv, asAgg, hrun]) (RelT.of hrc)
  · cases h

theorem s_idxV (hf : Fr fb V g w B e tmps) (hi : Inv CR base g σ w) {x y : Operand} {X Y : Opd} {t el : TypeId} {n wd : Nat} {ag : Bool} (hx : opdC x = some X) (hy : opdC y = some Y)
    (ht : P.underlying t = some (.array n el)) (hag : aggC P el = some ag) (hsz : sizeC P el = some wd)
    (h : sop e σ (.idxV ag n wd X Y) = some (d, σ')) (o : Oper) (ho : o.op = .index t x y) : Does P CR base g w B e (Act.mk tmps df).eval o d σ' := by
  have hr := hf.opd (df := df) hx
  simp only [sop] at h
  split at h
  · rename_i cs iv hX hiv
    obtain ⟨k, hky⟩ := intD_inv (hf.opd (df := df) hy) hiv
    rw [hX] at hr
    generalize hcv : (Act.mk tmps df).eval x = cv at hr
    cases hr with
    | agg _ ca hrl h1 =>
      split at h
      case isFalse => cases h
      rename_i hb
      have h2 : (if ag then some (.agg ((cs.drop (iv.toNat * wd)).take wd)) else cs[iv.toNat * wd]?) = some d ∧ σ = σ' := by
        cases ag with
        | true => simp_all
        | false =>
          simp only [Bool.false_eq_true, if_false, Option.map_eq_some_iff, Prod.mk.injEq] at h
          obtain ⟨a, h3, rfl, rfl⟩ := h
          exact ⟨h3, rfl⟩
      obtain ⟨h2, rfl⟩ := h2
      obtain ⟨c, hrun, hrc⟩ := part_run (P := P) (w := w) hag hsz hrl h1 (by have := hb.2.2; rw [Nat.add_mul] at this; omega) h2
      exact .pure hi (c := c) (by simp [execOp, ho, Instr.index, run_under ht, hky, asIntOf, hcv, hb.1, hb.2.1, run_sizeOf hsz, hrun]) (RelT.of hrc)
  · cases h

theorem s_lenC (hi : Inv CR base g σ w) {n : Nat} {args : Array Operand} {ts : Array TypeId} {x : Operand} {r : List Operand} {t : TypeId} {tr : List TypeId} {ρ : Operand → Value}
    (ht : (∃ el, P.underlying t = some (.array n el)) ∨ ∃ u el, P.underlying t = some (.pointer u) ∧ P.underlying u = some (.array n el)) (ha : args.toList = x :: r) (hts : ts.toList = t :: tr)
    (h : sop e σ (.lenC n) = some (d, σ')) (o : Oper) (ho : o.op = .call { callee := .builtin .len, args, argTypes := ts }) : Does P CR base g w B e ρ o d σ' := by
  simp only [sop] at h
  cases h
  obtain rfl : args = (x :: r).toArray := by rw [← ha]
  obtain rfl : ts = (t :: tr).toArray := by rw [← hts]
  refine .pure hi (c := .int .i64 n) ?_ (RelT.of (.int _ _))
  rcases ht with ⟨el, ht⟩ | ⟨u, el, ht, hu⟩
  · simp [execOp, ho, resolve, invoke, builtin, Builtin.len_, run_under ht, goInt]
  · simp [execOp, ho, resolve, invoke, builtin, Builtin.len_, run_under ht, run_under hu, goInt]

theorem s_mn (hf : Fr fb V g w B e tmps) (hi : Inv CR base g σ w) {x y : Operand} {X Y : Opd} {args : Array Operand} {ts : Array TypeId} (hx : opdC x = some X) (hy : opdC y = some Y) (ha : args.toList = [x, y])
    (h : sop e σ (.mn X Y) = some (d, σ')) (o : Oper) (ho : o.op = .call { callee := .builtin .min, args, argTypes := ts }) : Does P CR base g w B e (Act.mk tmps df).eval o d σ' := by
  have hr := hf.opd (df := df) hx
  have hr' := hf.opd (df := df) hy
  obtain rfl : args = #[x, y] := by rw [← Array.toList_inj, ha]
  simp only [sop] at h
  split at h
  · rename_i k a k' b hX hY
    cases h
    rw [hX] at hr; rw [hY] at hr'
    have e1 := hr.int_inv
    have e2 := hr'.int_inv
    refine .pure hi (c := .int k (min a b)) ?_ (RelT.of (.int _ _))
    simp [execOp, ho, resolve, invoke, builtin, Builtin.min_, Builtin.min2, e1, e2]
    omega
  · cases h

theorem s_mx (hf : Fr fb V g w B e tmps) (hi : Inv CR base g σ w) {x y : Operand} {X Y : Opd} {args : Array Operand} {ts : Array TypeId} (hx : opdC x = some X) (hy : opdC y = some Y) (ha : args.toList = [x, y])
    (h : sop e σ (.mx X Y) = some (d, σ')) (o : Oper) (ho : o.op = .call { callee := .builtin .max, args, argTypes := ts }) : Does P CR base g w B e (Act.mk tmps df).eval o d σ' := by
  have hr := hf.opd (df := df) hx
  have hr' := hf.opd (df := df) hy
  obtain rfl : args = #[x, y] := by rw [← Array.toList_inj, ha]
  simp only [sop] at h
  split at h
  · rename_i k a k' b hX hY
    cases h
    rw [hX] at hr; rw [hY] at hr'
    have e1 := hr.int_inv
    have e2 := hr'.int_inv
    refine .pure hi (c := .int k (max a b)) ?_ (RelT.of (.int _ _))
    simp [execOp, ho, resolve, invoke, builtin, Builtin.max_, Builtin.max2, e1, e2]
    omega
  · cases h

theorem run_sliceBound {n : Nat} {iv : Int} {k : IntKind} {code : BoundsCode} (h : 0 ≤ iv ∧ iv ≤ n) : (Instr.sliceBound (.int k iv) n code).run P w = .ok iv.toNat w := by
  simp [Instr.sliceBound, asIntOf, h]

theorem run_bounds {isSlice : Bool} (hf : Fr fb V g w B e tmps) {lo hi mx : Option Operand} {Lo Hi Mx : Option Opd} (hlo : optC lo = some Lo) (hhi : optC hi = some Hi) (hmx : optC mx = some Mx) {n cap l h : Nat} (hn : n ≤ cap)
    (hb : bounds n e Lo Hi Mx = some (l, h)) :
    ∃ m, (Instr.sliceBounds isSlice n cap (lo.map (Act.mk tmps df).eval) (hi.map (Act.mk tmps df).eval) (mx.map (Act.mk tmps df).eval)).run P w = .ok (l, h, m) w ∧ l ≤ h ∧ h ≤ n ∧ h ≤ m ∧ m ≤ cap := by
  have hopt : ∀ {x : Option Operand} {X : Option Opd}, optC x = some X → (x = none ∧ X = none) ∨ ∃ y Y, x = some y ∧ X = some Y ∧ opdC y = some Y := by
    intro x X hx
    cases x with
    | none => simp [optC] at hx; exact .inl ⟨rfl, hx.symm⟩
    | some y => simp only [optC, Option.map_eq_some_iff] at hx; obtain ⟨Y, h1, rfl⟩ := hx; exact .inr ⟨y, Y, rfl, rfl, h1⟩
  simp only [bounds, Option.bind_eq_some_iff, Option.map_eq_some_iff] at hb
  obtain ⟨m, hm, h', hh, l', hl, hb⟩ := hb
  cases hb
  have hbnd : ∀ {x : Option Operand} {X : Option Opd} {m : Nat} {dfl : Option Nat} {r : Nat}, optC x = some X → bnd e m dfl X = some r →
      (x = none ∧ X = none ∧ dfl = some r) ∨ ∃ (y : Operand) (k : IntKind) (iv : Int), x = some y ∧ X.isSome = true ∧ (Act.mk tmps df).eval y = .int k iv ∧ 0 ≤ iv ∧ iv ≤ m ∧ r = iv.toNat := by
    intro x X m dfl r hx hb
    rcases hopt hx with ⟨rfl, rfl⟩ | ⟨y, Y, rfl, rfl, hy⟩
    · exact .inl ⟨rfl, rfl, hb⟩
    · simp only [bnd] at hb
      split at hb
      · rename_i iv hiv
        obtain ⟨k, hk⟩ := intD_inv (hf.opd (df := df) hy) hiv
        split at hb
        · rename_i hc; cases hb; exact .inr ⟨y, k, iv, rfl, rfl, hk, hc.1, hc.2, rfl⟩
        · cases hb
      · cases hb
  -- the three bounds
  have h3 : (mx = none ∧ Mx = none ∧ m = n) ∨ ∃ (y : Operand) (k : IntKind) (iv : Int), mx = some y ∧ Mx.isSome = true ∧ (Act.mk tmps df).eval y = .int k iv ∧ 0 ≤ iv ∧ iv ≤ n ∧ m = iv.toNat := by
    rcases hbnd hmx hm with ⟨a1, a2, a3⟩ | a
    · cases a3; exact .inl ⟨a1, a2, rfl⟩
    · exact .inr a
  have h2 : (hi = none ∧ Mx.isSome = false ∧ h = n) ∨ ∃ (y : Operand) (k : IntKind) (iv : Int), hi = some y ∧ (Act.mk tmps df).eval y = .int k iv ∧ 0 ≤ iv ∧ iv ≤ m ∧ h = iv.toNat := by
    rcases hbnd hhi hh with ⟨a1, a2, a3⟩ | ⟨y, k, iv, a1, _, a2⟩
    · split at a3
      · cases a3
      · rename_i hc; cases a3; exact .inl ⟨a1, by simpa using hc, rfl⟩
    · exact .inr ⟨y, k, iv, a1, a2⟩
  have h1 : (lo = none ∧ l = 0) ∨ ∃ (y : Operand) (k : IntKind) (iv : Int), lo = some y ∧ (Act.mk tmps df).eval y = .int k iv ∧ 0 ≤ iv ∧ iv ≤ h ∧ l = iv.toNat := by
    rcases hbnd hlo hl with ⟨a1, a2, a3⟩ | ⟨y, k, iv, a1, _, a2⟩
    · cases a3; exact .inl ⟨a1, rfl⟩
    · exact .inr ⟨y, k, iv, a1, a2⟩
  rcases h3 with ⟨rfl, rfl, rfl⟩ | ⟨y3, k3, i3, rfl, hs3, e3, a3, b3, rfl⟩
  · refine ⟨cap, ?_, ?_, ?_, ?_, Nat.le_refl _⟩
    · rcases h2 with ⟨rfl, _, rfl⟩ | ⟨y2, k2, i2, rfl, e2, a2, b2, rfl⟩ <;> rcases h1 with ⟨rfl, rfl⟩ | ⟨y1, k1, i1, rfl, e1, a1, b1, rfl⟩
      · simp [Instr.sliceBounds]
      · simp [Instr.sliceBounds, e1, run_sliceBound (P := P) (w := w) (n := h) (k := k1) (iv := i1) ⟨a1, b1⟩]
      · simp [Instr.sliceBounds, e2, run_sliceBound (P := P) (w := w) (n := cap) (k := k2) (iv := i2) ⟨a2, by omega⟩]
      · simp [Instr.sliceBounds, e1, e2, run_sliceBound (P := P) (w := w) (n := cap) (k := k2) (iv := i2) ⟨a2, by omega⟩, run_sliceBound (P := P) (w := w) (n := i2.toNat) (k := k1) (iv := i1) ⟨a1, b1⟩]
    · rcases h1 with ⟨_, rfl⟩ | ⟨y1, k1, i1, _, e1, a1, b1, rfl⟩ <;> omega
    · rcases h2 with ⟨_, _, rfl⟩ | ⟨y2, k2, i2, _, e2, a2, b2, rfl⟩ <;> omega
    · rcases h2 with ⟨_, _, rfl⟩ | ⟨y2, k2, i2, _, e2, a2, b2, rfl⟩ <;> omega
  · rcases h2 with ⟨_, h2, _⟩ | ⟨y2, k2, i2, rfl, e2, a2, b2, rfl⟩
    · rw [hs3] at h2; cases h2
    · refine ⟨i3.toNat, ?_, ?_, by omega, by omega, by omega⟩
      · rcases h1 with ⟨rfl, rfl⟩ | ⟨y1, k1, i1, rfl, e1, a1, b1, rfl⟩
        · simp [Instr.sliceBounds, e2, e3, run_sliceBound (P := P) (w := w) (n := cap) (k := k3) (iv := i3) ⟨a3, by omega⟩, run_sliceBound (P := P) (w := w) (n := i3.toNat) (k := k2) (iv := i2) ⟨a2, b2⟩]
        · simp [Instr.sliceBounds, e1, e2, e3, run_sliceBound (P := P) (w := w) (n := cap) (k := k3) (iv := i3) ⟨a3, by omega⟩, run_sliceBound (P := P) (w := w) (n := i3.toNat) (k := k2) (iv := i2) ⟨a2, b2⟩,
            run_sliceBound (P := P) (w := w) (n := i2.toNat) (k := k1) (iv := i1) ⟨a1, b1⟩]
      · rcases h1 with ⟨_, rfl⟩ | ⟨y1, k1, i1, _, e1, a1, b1, rfl⟩ <;> omega

end ops
end Go.Abs

/-
  Operations on slices and composites.
-/
set_option linter.unusedVariables false
set_option linter.unusedSimpArgs false
namespace Go.Abs
open Go

section ops
variable {P : Program} {CR : CRel} {base fb : Nat} {V : List Nat} {g : G} {σ σ' : Stack} {w : World} {B : Nat → Nat} {e : Env} {tmps : Array Value} {df : List Deferred}
  {d : D}

theorem s_slc (hf : Fr fb V g w B e tmps) (hi : Inv CR base g σ w) {x : Operand} {X : Opd} {t el : TypeId} {wd : Nat} {lo hi' mx : Option Operand} {Lo Hi Mx : Option Opd} (hx : opdC x = some X)
    (ht : P.underlying t = some (.slice el)) (hw : sizeC P el = some wd) (hlo : optC lo = some Lo) (hhi : optC hi' = some Hi) (hmx : optC mx = some Mx)
    (h : sop e σ (.slc wd X Lo Hi Mx) = some (d, σ')) (o : Oper) (ho : o.op = .slice t x lo hi' mx) : Does P CR base g w B e (Act.mk tmps df).eval o d σ' := by
  have hr := hf.opd (df := df) hx
  have hrun : ∀ (a : Option Addr) (n cap l h m : Nat), (Act.mk tmps df).eval x = .slice a n cap →
      (Instr.sliceBounds true n cap (lo.map (Act.mk tmps df).eval) (hi'.map (Act.mk tmps df).eval) (mx.map (Act.mk tmps df).eval)).run P w = .ok (l, h, m) w →
      (execOp (Act.mk tmps df).eval o).run P w = .ok (.value (.slice (if m = l then a else a.map (·.add (l * wd))) (h - l) (m - l))) w := by
    intro a n cap l h m he hb
    simp [execOp, ho, Instr.sliceAt, run_under ht, Instr.slice, he, hb, run_sizeOf hw]
  simp only [sop] at h
  split at h
  · rename_i n cs hX
    simp only [Option.map_eq_some_iff, Prod.mk.injEq] at h
    obtain ⟨⟨l, h'⟩, hb, rfl, rfl⟩ := h
    rw [hX] at hr
    generalize hcv : (Act.mk tmps df).eval x = cv at hr
    cases hr with
    | lstn =>
      obtain ⟨m, h1, h2, h3, h4, h5⟩ := run_bounds (P := P) (w := w) (df := df) (isSlice := true) hf hlo hhi hmx (Nat.le_refl 0) hb
      refine .pure hi (hrun _ _ _ _ _ _ hcv h1) (RelT.of ?_)
      obtain rfl : h' = 0 := by omega
      obtain rfl : l = 0 := by omega
      obtain rfl : m = 0 := by omega
      simpa using RelV.lstn (g := g)
    | lst _ _ a cap vs hn h2 h3 h4 =>
      obtain ⟨m, h1, h2', h3', h4', h5'⟩ := run_bounds (P := P) (w := w) (df := df) (isSlice := true) hf hlo hhi hmx hn hb
      refine .pure hi (hrun _ _ _ _ _ _ hcv h1) (RelT.of ?_)
      by_cases hml : m = l
      · rw [if_pos hml]
        obtain rfl : h' = l := by omega
        simp only [Nat.sub_self]
        refine .lst _ _ a _ [] (by omega) (fun _ _ hh => by simp at hh) (by simp) (by simpa using RelL.nil)
      · rw [if_neg hml]
        simp only [Option.map_some]
        by_cases hl : l * wd = 0
        · rw [hl]
          have : a.add 0 = a := by simp [Addr.add]
          rw [this]
          refine .lst _ _ a _ (vs.take ((h' - l) * wd)) (by omega) (row_take h2 _) (fun hne => h3 (by omega)) ?_
          simpa using h4.take _
        · have ha : a.add (l * wd) = ⟨a.block, a.off + l * wd, none⟩ := by
            unfold Addr.add; rw [if_neg hl]
          rw [ha]
          exact .lst _ _ _ _ ((vs.drop (l * wd)).take ((h' - l) * wd)) (by omega) (row_take (row_drop h2 _) _) (fun _ => rfl) ((h4.drop _).take _)
  · rename_i l0 i0 v off n w' hX
    split at h
    case isFalse => cases h
    rename_i hw'; subst hw'
    simp only [Option.map_eq_some_iff, Prod.mk.injEq] at h
    obtain ⟨⟨l, h'⟩, hb, rfl, rfl⟩ := h
    rw [hX] at hr
    generalize hcv : (Act.mk tmps df).eval x = cv at hr
    cases hr with
    | sl _ _ _ _ _ _ a cap L k1 k2 hn k4 k5 k6 k7 =>
      obtain ⟨m, h1, h2', h3', h4', h5'⟩ := run_bounds (P := P) (w := w) (df := df) (isSlice := true) hf hlo hhi hmx hn.1 hb
      refine .pure hi (hrun _ _ _ _ _ _ hcv h1) (RelT.of ?_)
      by_cases hml : m = l
      · rw [if_pos hml]
        refine .sl _ _ _ _ _ _ a _ L k1 k2 (by omega) (fun _ => by omega) (fun x hx hne => k5 x hx (by omega)) (fun _ _ _ _ => .inr (by omega)) k7
      · rw [if_neg hml]
        refine .sl _ _ _ _ _ _ _ _ L k1 k2 (by omega) ?_ ?_ ?_ ?_
        · intro ha
          have : a = none := by cases a <;> simp_all
          have := k4 this; omega
        · intro y hy hne
          cases a with
          | none => cases hy
          | some a =>
            simp only [Option.map_some, Option.some.injEq] at hy; subst hy
            unfold Addr.add; split
            · exact k5 a rfl (by omega)
            · rfl
        · intro blk bo sz hL
          rcases k6 blk bo sz hL with ⟨rfl, k8⟩ | k8
          · left
            refine ⟨by simp [add_eq, Nat.add_assoc], ?_⟩
            have : (m - l) * w' + l * w' = m * w' := by rw [← Nat.add_mul]; congr 1; omega
            have : m * w' ≤ cap * w' := Nat.mul_le_mul_right _ h5'
            dsimp only; omega
          · omega
        · intro hL; rw [k7 hL]; rfl
  · rename_i hX
    simp only [Option.map_eq_some_iff, Prod.mk.injEq] at h
    obtain ⟨⟨l, h'⟩, hb, rfl, rfl⟩ := h
    rw [hX] at hr
    generalize hcv : (Act.mk tmps df).eval x = cv at hr
    cases hr
    obtain ⟨m, h1, h2, h3, h4, h5⟩ := run_bounds (P := P) (w := w) (df := df) (isSlice := true) hf hlo hhi hmx (Nat.le_refl 0) hb
    refine .pure hi (hrun _ _ _ _ _ _ hcv h1) (RelT.of ?_)
    obtain rfl : h' = 0 := by omega
    obtain rfl : l = 0 := by omega
    obtain rfl : m = 0 := by omega
    exact RelV.nils
  · cases h

theorem s_slca (hf : Fr fb V g w B e tmps) (hi : Inv CR base g σ w) {x : Operand} {X : Opd} {t el : TypeId} {n wd : Nat} {lo hi' : Option Operand} {Lo Hi : Option Opd} (hx : opdC x = some X)
    (ht : P.underlying t = some (.array n el)) (hw : sizeC P el = some wd) (hlo : optC lo = some Lo) (hhi : optC hi' = some Hi)
    (h : sop e σ (.slca n wd X Lo Hi) = some (d, σ')) (o : Oper) (ho : o.op = .slice t x lo hi' none) : Does P CR base g w B e (Act.mk tmps df).eval o d σ' := by
  have hr := hf.opd (df := df) hx
  have hrun : ∀ (b o' l h m : Nat), (Act.mk tmps df).eval x = .pointer (some ⟨b, o', none⟩) →
      (Instr.sliceBounds false n n (lo.map (Act.mk tmps df).eval) (hi'.map (Act.mk tmps df).eval) ((none : Option Operand).map (Act.mk tmps df).eval)).run P w = .ok (l, h, m) w →
      (execOp (Act.mk tmps df).eval o).run P w = .ok (.value (.slice (some (if m = l then ⟨b, o', none⟩ else ⟨b, o' + l * wd, none⟩)) (h - l) (m - l))) w := by
    intro b o' l h m he hb
    simp only [Option.map_none] at hb
    simp [execOp, ho, Instr.sliceAt, run_under ht, he, Instr.sureAddr, hb, run_sizeOf hw, add_eq]
  simp only [sop] at h
  split at h
  · rename_i cs hX
    simp only [Option.map_eq_some_iff, Prod.mk.injEq] at h
    obtain ⟨⟨l, h'⟩, hb, rfl, rfl⟩ := h
    rw [hX] at hr
    generalize hcv : (Act.mk tmps df).eval x = cv at hr
    cases hr with
    | cref _ b o' vs k1 k2 =>
      obtain ⟨m, h1, h2', h3', h4', h5'⟩ := run_bounds (P := P) (w := w) (df := df) (isSlice := false) hf hlo hhi (mx := none) rfl (Nat.le_refl n) hb
      refine .pure hi (hrun _ _ _ _ _ hcv h1) (RelT.of ?_)
      by_cases hml : m = l
      · rw [if_pos hml]
        obtain rfl : h' = l := by omega
        simp only [Nat.sub_self]
        exact .lst _ _ _ _ [] (by omega) (fun _ _ hh => by simp at hh) (fun _ => rfl) (by simpa using RelL.nil)
      · rw [if_neg hml]
        exact .lst _ _ _ _ ((vs.drop (l * wd)).take ((h' - l) * wd)) (by omega) (row_take (row_drop k1 _) _) (fun _ => rfl) ((k2.drop _).take _)
  · rename_i l0 i0 v off hX
    split at h
    case h_2 => cases h
    rename_i cs hcs
    split at h
    case isFalse => cases h
    rename_i hlen
    simp only [Option.map_eq_some_iff, Prod.mk.injEq] at h
    obtain ⟨⟨l, h'⟩, hb, rfl, rfl⟩ := h
    rw [hX] at hr
    generalize hcv : (Act.mk tmps df).eval x = cv at hr
    cases hr with
    | ref _ _ _ _ b o1 L k1 k2 k3 k4 =>
      obtain ⟨m, h1, h2', h3', h4', h5'⟩ := run_bounds (P := P) (w := w) (df := df) (isSlice := false) hf hlo hhi (mx := none) rfl (Nat.le_refl n) hb
      refine .pure hi (hrun _ _ _ _ _ hcv h1) (RelT.of ?_)
      refine .sl _ _ _ _ _ _ _ _ L k1 k2 (by omega) (fun hh => by cases hh) (fun x hx _ => by cases hx; split <;> rfl) ?_ ?_
      · intro blk bo sz hL
        obtain ⟨rfl, rfl⟩ := k3 blk bo sz hL
        by_cases hml : m = l
        · exact .inr (by omega)
        · left
          rw [if_neg hml]
          refine ⟨by simp [Nat.add_assoc], ?_⟩
          subst hL
          -- the block is as long as its cells say
          unfold cells? at hcs
          split at hcs
          case h_2 => cases hcs
          rename_i v' cs' hblk
          split at hcs
          case isFalse => cases hcs
          rename_i hv; subst hv; cases hcs
          obtain ⟨b0, hb0, hrel⟩ := hi.dom _ _ _ k1
          rw [hblk] at hb0; cases hb0
          obtain ⟨_, ca, el', hheap, hsz, hle, _⟩ := hrel
          have : (m - l) * wd + l * wd = m * wd := by rw [← Nat.add_mul]; congr 1; omega
          have : m * wd ≤ n * wd := Nat.mul_le_mul_right _ h5'
          dsimp only; omega
      · intro hL; exact absurd hL k4
  · cases h

end ops
end Go.Abs

/-
  Composites, made slices, equality of rows.
-/
set_option linter.unusedVariables false
set_option linter.unusedSimpArgs false
namespace Go.Abs
open Go

theorem set_row (off : Nat) : ∀ (l : List Value) (k : Nat) (a : Array Value), off + k + l.length ≤ a.size →
    ((l.zipIdx k).foldl (fun (cs : Array Value) (p : Value × Nat) => cs.setIfInBounds (off + p.2) p.1) a).toList = a.toList.take (off + k) ++ l ++ a.toList.drop (off + k + l.length)
  | [], k, a, h => by simp
  | v :: l, k, a, h => by
    simp only [List.length_cons] at h
    simp only [List.zipIdx_cons, List.foldl_cons]
    rw [set_row off l (k + 1) _ (by simp; omega)]
    simp only [Array.toList_setIfInBounds, List.length_cons]
    have hlt : off + k < a.toList.length := by simp; omega
    rw [show off + (k + 1) = off + k + 1 from by omega]
    have h1 : (a.toList.set (off + k) v).take (off + k + 1) = a.toList.take (off + k) ++ [v] := by
      rw [List.take_succ_eq_append_getElem (by simpa using hlt)]
      simp [List.take_set_of_le]
    rw [h1, List.drop_set_of_lt (by omega)]
    simp only [List.append_assoc, List.singleton_append]
    rw [show off + k + 1 + l.length = off + k + (l.length + 1) from by omega]

section
variable {base fb : Nat} {V : List Nat} {g : G} {w : World} {B : Nat → Nat} {e : Env} {tmps : Array Value} {df : List Deferred}

theorem fill_rel (hf : Fr fb V g w B e tmps) {place : Nat → Option (Nat × Nat)} : ∀ {ps : List (Nat × Operand)} {parts : List (Nat × Nat × Opd)} {cs ds : List D} {vs : Array Value}, partsC place ps = some parts →
    RelL g cs vs.toList → (∀ x ∈ vs.toList, x.oneCell' = true) → fillD e parts cs = some ds →
    ∃ vs', Instr.fill place vs (ps.map fun p => (p.1, (Act.mk tmps df).eval p.2)) = some vs' ∧ RelL g ds vs'.toList ∧ ∀ x ∈ vs'.toList, x.oneCell' = true
  | [], parts, cs, ds, vs, hp, hr, h1, hfill => by
    simp only [partsC, Option.some.injEq] at hp; subst hp
    simp only [fillD, Option.some.injEq] at hfill; subst hfill
    exact ⟨vs, rfl, hr, h1⟩
  | (i, x) :: ps, parts, cs, ds, vs, hp, hr, h1, hfill => by
    simp only [partsC] at hp
    split at hp
    case h_2 => cases hp
    rename_i o s y r' hpl hx hps
    cases hp
    simp only [fillD] at hfill
    split at hfill
    case h_2 => cases hfill
    rename_i p hcells
    split at hfill
    case isFalse => cases hfill
    rename_i hc
    obtain ⟨hlen, hle⟩ := hc
    obtain ⟨hrp, h1p⟩ := (hf.opd (df := df) hx).cells hcells
    have hsz : ((Act.mk tmps df).eval x).cells.size = s := by have := hrp.length; simp at this; omega
    have hle' : o + s ≤ vs.size := by have := hr.length; simp at this; omega
    have hset := set_row o ((Act.mk tmps df).eval x).cells.toList 0 vs (by simp; omega)
    simp only [Nat.add_zero, Array.length_toList, hsz] at hset
    obtain ⟨vs', e1, e2, e3⟩ := fill_rel hf (vs := (((Act.mk tmps df).eval x).cells.toList.zipIdx 0).foldl (fun (cs : Array Value) (p : Value × Nat) => cs.setIfInBounds (o + p.2) p.1) vs) hps
      (by rw [hset]; exact ((hr.take o).append hrp).append (hr.drop (o + s))) (by
        rw [hset]; intro z hz
        simp only [List.mem_append] at hz
        rcases hz with (hz | hz) | hz
        · exact h1 z (List.mem_of_mem_take hz)
        · exact h1p z hz
        · exact h1 z (List.mem_of_mem_drop hz)) hfill
    refine ⟨vs', ?_, e2, e3⟩
    simp only [List.map_cons, Instr.fill, hpl, hsz]
    rw [if_neg (by simp; omega)]
    rw [← e1]
    congr 1
    rw [← Array.foldl_toList]
    simp [Array.toList_zipIdx]
end

theorem flat_zero (z : Array Value) (hz : 0 < z.size) : ∀ n, (List.range (n * z.size)).map (fun i => z[i % z.size]!) = (List.range n).flatMap fun _ => z.toList
  | 0 => by simp
  | n + 1 => by
    rw [List.range_succ, List.flatMap_append, ← flat_zero z hz n, Nat.add_mul, Nat.one_mul, List.range_add, List.map_append, List.map_map]
    congr 1
    simp only [List.flatMap_cons, List.flatMap_nil, List.append_nil]
    apply List.ext_getElem (by simp)
    intro i h1 h2
    simp only [List.getElem_map, List.getElem_range, Function.comp]
    have hi : i < z.size := by simpa using h2
    have : (n * z.size + i) % z.size = i := by rw [Nat.add_comm, Nat.add_mul_mod_self_right, Nat.mod_eq_of_lt hi]
    rw [this]
    simp [hi]

theorem len_flat {α : Type} (z : List α) : ∀ n : Nat, ((List.range n).flatMap fun _ => z).length = n * z.length
  | 0 => by simp
  | n + 1 => by rw [List.range_succ, List.flatMap_append, List.length_append, len_flat z n, Nat.add_mul]; simp

theorem RelL.flatMap {g : G} {z : List D} {v : List Value} (h : RelL g z v) : ∀ n : Nat, RelL g ((List.range n).flatMap fun _ => z) ((List.range n).flatMap fun _ => v)
  | 0 => by simpa using RelL.nil
  | n + 1 => by
    rw [List.range_succ, List.flatMap_append, List.flatMap_append]
    exact (RelL.flatMap h n).append (by simpa using h)

section ops
variable {P : Program} {CR : CRel} {base fb : Nat} {V : List Nat} {g : G} {σ σ' : Stack} {w : World} {B : Nat → Nat} {e : Env} {tmps : Array Value} {df : List Deferred}
  {d : D}

theorem run_places (fs : List Field) (h : fs.all (fun f => (sizeC P f.type).isSome) = true) :
    (fs.mapM (fun f => (do pure (f.offset, ← sizeOf f.type) : Sem (Nat × Nat)))).run P w = .ok (fs.map fun f => (f.offset, (sizeC P f.type).getD 0)) w := by
  induction fs with
  | nil => simp
  | cons f fs ih =>
    simp only [List.all_cons, Bool.and_eq_true] at h
    obtain ⟨s, hs⟩ := Option.isSome_iff_exists.1 h.1
    rw [List.mapM_cons]
    simp only [Sem.run_bind, run_sizeOf hs, Result.andThen_ok, Sem.run_pure, ih h.2]
    simp [hs]

theorem s_bld_struct (hf : Fr fb V g w B e tmps) (hi : Inv CR base g σ w) {t : TypeId} {fs : Array Field} {z : List D} {ps : Array (Nat × Operand)} {parts : List (Nat × Nat × Opd)}
    (ht : P.underlying t = some (.struct fs)) (hz : zeroC P t = some z) (hall : fs.toList.all (fun f => (sizeC P f.type).isSome) = true) (hp : partsC (fieldsC P fs) ps.toList = some parts)
    (h : sop e σ (.bld z parts) = some (d, σ')) (o : Oper) (ho : o.op = .build t ps) : Does P CR base g w B e (Act.mk tmps df).eval o d σ' := by
  obtain ⟨i, v, hinfo, hzero, hrz, h1⟩ := zeroC_rel g hz
  simp only [sop, Option.bind_eq_bind, Option.bind_eq_some_iff] at h
  obtain ⟨cs, hcs, h⟩ := h
  cases h
  obtain ⟨vs', e1, e2, e3⟩ := fill_rel (df := df) hf hp hrz h1 hcs
  have hplace : (fun i => (fs.toList.map fun f => (f.offset, (sizeC P f.type).getD 0)).toArray[i]?) = fieldsC P fs := by
    funext i
    simp only [fieldsC, List.getElem?_toArray, List.getElem?_map, Array.getElem?_toList]
    cases hfi : fs[i]? with
    | none => rfl
    | some f =>
      have hm : f ∈ fs.toList := by
        rw [← Array.getElem?_toList] at hfi; exact List.mem_of_getElem? hfi
      obtain ⟨s, hs⟩ := Option.isSome_iff_exists.1 (List.all_eq_true.1 hall f hm)
      simp [hs]
  refine .pure hi (c := .agg vs') ?_ (RelT.of (.agg _ _ e2 e3))
  have hm : (fs.mapM (fun f => (do pure (f.offset, ← sizeOf f.type) : Sem (Nat × Nat)))).run P w = .ok (fs.toList.map fun f => (f.offset, (sizeC P f.type).getD 0)).toArray w := by
    rw [Array.mapM_eq_mapM_toList, Sem.run_map, run_places fs.toList hall]
    simp
  simp only [execOp, ho, Instr.build, Sem.run_bind, run_zeroValue hinfo hzero, run_under ht, Result.andThen_ok, hm]
  rw [hplace]
  simp only [Array.toList_map]
  rw [show (ps.toList.map fun x => match x with | (i, x) => (i, (Act.mk tmps df).eval x)) = ps.toList.map fun p => (p.1, (Act.mk tmps df).eval p.2) from rfl, e1]
  simp

theorem s_bld_array (hf : Fr fb V g w B e tmps) (hi : Inv CR base g σ w) {t el : TypeId} {n wd : Nat} {z : List D} {ps : Array (Nat × Operand)} {parts : List (Nat × Nat × Opd)}
    (ht : P.underlying t = some (.array n el)) (hw : sizeC P el = some wd) (hz : zeroC P t = some z) (hp : partsC (fun i => some (i * wd, wd)) ps.toList = some parts)
    (h : sop e σ (.bld z parts) = some (d, σ')) (o : Oper) (ho : o.op = .build t ps) : Does P CR base g w B e (Act.mk tmps df).eval o d σ' := by
  obtain ⟨i, v, hinfo, hzero, hrz, h1⟩ := zeroC_rel g hz
  simp only [sop, Option.bind_eq_bind, Option.bind_eq_some_iff] at h
  obtain ⟨cs, hcs, h⟩ := h
  cases h
  obtain ⟨vs', e1, e2, e3⟩ := fill_rel (df := df) hf hp hrz h1 hcs
  refine .pure hi (c := .agg vs') ?_ (RelT.of (.agg _ _ e2 e3))
  simp only [execOp, ho, Instr.build, Sem.run_bind, run_zeroValue hinfo hzero, run_under ht, Result.andThen_ok, run_sizeOf hw]
  simp only [Array.toList_map]
  rw [show (ps.toList.map fun x => match x with | (i, x) => (i, (Act.mk tmps df).eval x)) = ps.toList.map fun p => (p.1, (Act.mk tmps df).eval p.2) from rfl, e1]
  simp

theorem run_bsl (hf : Fr fb V g w B e tmps) {t el : TypeId} {n wd : Nat} {z : List D} {ps : Array (Nat × Operand)} {parts : List (Nat × Nat × Opd)} {cs : List D}
    (ht : P.underlying t = some (.slice el)) (hw : sizeC P el = some wd) (hz : zeroC P el = some z) (hpos : 0 < wd) (hzl : z.length = wd) (hbig : n * wd ≤ 2 ^ 24)
    (hp : partsC (fun i => some (i * wd, wd)) ps.toList = some parts) (hcs : fillD e parts ((List.range n).flatMap fun _ => z) = some cs) (o : Oper) (ho : o.op = .buildSlice t n ps) :
    ∃ vs : Array Value, (execOp (Act.mk tmps df).eval o).run P w = .ok (.value (.slice (some ⟨w.heap.size, 0, none⟩) n n)) (w.alloc (.cells vs el)) ∧ RelL g cs vs.toList ∧ (∀ x ∈ vs.toList, x.oneCell' = true) := by
  obtain ⟨i, v, hinfo, hzero, hrz, h1⟩ := zeroC_rel g hz
  have hvs : v.cells.size = wd := by have := hrz.length; simp at this; omega
  have hflat := flat_zero v.cells (by omega) n
  obtain ⟨vs', e1, e2, e3⟩ := fill_rel (df := df) hf (vs := ((List.range n).flatMap fun _ => v.cells.toList).toArray) hp (by simpa using hrz.flatMap n) (by
    intro x hx; simp only [List.mem_flatMap] at hx; obtain ⟨_, _, hx⟩ := hx; exact h1 x hx) hcs
  refine ⟨vs', ?_, e2, e3⟩
  have harr : (Array.range (n * wd)).map (fun x => v.cells[x % v.cells.size]!) = ((List.range n).flatMap fun _ => v.cells.toList).toArray := by
    rw [← hflat, hvs]
    apply Array.ext'
    simp
  by_cases hn : n = 0
  · subst hn
    have e1' : Instr.fill (fun i => some (i * wd, wd)) #[] (ps.toList.map fun p => (p.1, (Act.mk tmps df).eval p.2)) = some vs' := by simpa using e1
    simp only [execOp, ho, Instr.buildSlice, Sem.run_bind, run_under ht, Result.andThen_ok, run_sizeOf hw, Sem.run_ite]
    simp only [Nat.zero_mul]
    rw [if_neg (by omega)]
    simp only [Array.toList_map]
    rw [show (ps.toList.map fun x => match x with | (i, x) => (i, (Act.mk tmps df).eval x)) = ps.toList.map fun p => (p.1, (Act.mk tmps df).eval p.2) from rfl]
    simp [e1', newRow, Array.range]
  · have hne : n * wd ≠ 0 := Nat.mul_ne_zero hn (by omega)
    simp only [execOp, ho, Instr.buildSlice, Sem.run_bind, run_under ht, Result.andThen_ok, run_sizeOf hw, Sem.run_ite]
    rw [if_neg (by omega)]
    simp only [hne, if_false, Sem.run_bind, run_zeroValue hinfo hzero, Result.andThen_ok, Sem.run_pure, harr]
    simp only [Array.toList_map]
    rw [show (ps.toList.map fun x => match x with | (i, x) => (i, (Act.mk tmps df).eval x)) = ps.toList.map fun p => (p.1, (Act.mk tmps df).eval p.2) from rfl, e1]
    simp [newRow]

theorem s_bsi (hf : Fr fb V g w B e tmps) (hi : Inv CR base g σ w) {t el : TypeId} {n wd : Nat} {z : List D} {ps : Array (Nat × Operand)} {parts : List (Nat × Nat × Opd)}
    (ht : P.underlying t = some (.slice el)) (hw : sizeC P el = some wd) (hz : zeroC P el = some z) (hpos : 0 < wd) (hzl : z.length = wd) (hbig : n * wd ≤ 2 ^ 24)
    (hp : partsC (fun i => some (i * wd, wd)) ps.toList = some parts) (h : sop e σ (.bsi n wd ((List.range n).flatMap fun _ => z) parts) = some (d, σ')) (o : Oper) (ho : o.op = .buildSlice t n ps) :
    Does P CR base g w B e (Act.mk tmps df).eval o d σ' := by
  simp only [sop, Option.bind_eq_bind, Option.bind_eq_some_iff] at h
  obtain ⟨cs, hcs, h⟩ := h
  cases h
  obtain ⟨vs, hrun, hr, h1⟩ := run_bsl (P := P) (w := w) (df := df) hf ht hw hz hpos hzl hbig hp hcs o ho
  obtain ⟨i1, i2, i3⟩ := hi.newImm vs.toList vs el (fun j y hy => ⟨by simpa using hy, h1 y (List.mem_of_getElem? hy)⟩)
  exact .val _ hrun i2 i1 (.lst _ _ _ _ _ (Nat.le_refl _) i3 (fun _ => rfl) (hr.mono i2.le))

theorem s_bsm (hf : Fr fb V g w B e tmps) (hi : Inv CR base g σ w) {t el : TypeId} {n wd : Nat} {z : List D} {ps : Array (Nat × Operand)} {parts : List (Nat × Nat × Opd)}
    (ht : P.underlying t = some (.slice el)) (hw : sizeC P el = some wd) (hz : zeroC P el = some z) (hpos : 0 < wd) (hzl : z.length = wd) (hbig : n * wd ≤ 2 ^ 24)
    (hp : partsC (fun i => some (i * wd, wd)) ps.toList = some parts) (h : sop e σ (.bsm n wd ((List.range n).flatMap fun _ => z) parts) = some (d, σ')) (o : Oper) (ho : o.op = .buildSlice t n ps) :
    Does P CR base g w B e (Act.mk tmps df).eval o d σ' := by
  simp only [sop, Option.bind_eq_bind, Option.bind_eq_some_iff] at h
  obtain ⟨cs, hcs, ⟨l, i, σ1⟩, hn, h⟩ := h
  cases h
  obtain ⟨vs, hrun, hr, h1⟩ := run_bsl (P := P) (w := w) (df := df) hf ht hw hz hpos hzl hbig hp hcs o ho
  obtain ⟨i1, i2⟩ := hi.newCells hn vs.toList vs el hr (by simp) (fun j y hy => ⟨by simpa using hy, h1 y (List.mem_of_getElem? hy)⟩)
  refine .val _ hrun i2 i1 (.sl l i 0 0 n wd _ _ _ G.setLoc_same (Nat.le_refl _) ⟨Nat.le_refl _, by have := Nat.le_mul_of_pos_right n hpos; omega⟩ (fun hh => by cases hh) (fun x hx _ => by cases hx; rfl) ?_ (fun hh => by cases hh))
  intro blk bo sz hL
  cases hL
  refine .inl ⟨rfl, ?_⟩
  have hlen : cs.length = vs.size := by have := hr.length; simpa using this
  have hl2 : ∀ {parts : List (Nat × Nat × Opd)} {a b : List D}, fillD e parts a = some b → b.length = a.length := by
    intro parts
    induction parts with
    | nil => intro a b hb; simp only [fillD, Option.some.injEq] at hb; rw [hb]
    | cons q r ih =>
      intro a b hb
      obtain ⟨o1, s1, x1⟩ := q
      simp only [fillD] at hb
      split at hb
      · rename_i p _
        split at hb
        · rename_i hc
          have := ih hb
          simp at this; omega
        · cases hb
      · cases hb
  have := hl2 hcs
  have h3 : ((List.range n).flatMap fun _ => z).length = n * wd := by
    rw [len_flat, hzl]
  omega

theorem s_mks (hf : Fr fb V g w B e tmps) (hi : Inv CR base g σ w) {x y : Operand} {X Y : Opd} {t el : TypeId} {wd bytes : Nat} {z : List D} (hx : opdC x = some X) (hy : opdC y = some Y)
    (ht : P.underlying t = some (.slice el)) (hw : sizeC P el = some wd) (hb : (P.info? el).map (·.bytes) = some bytes) (hz : zeroC P el = some z) (hpos : 0 < wd) (hbpos : 0 < bytes)
    (h : sop e σ (.mks wd bytes z X Y) = some (d, σ')) (o : Oper) (ho : o.op = .makeSlice t x y) : Does P CR base g w B e (Act.mk tmps df).eval o d σ' := by
  have hr := hf.opd (df := df) hx
  have hr' := hf.opd (df := df) hy
  obtain ⟨i0, v, hinfo, hzero, hrz, h1⟩ := zeroC_rel g hz
  simp only [sop] at h
  split at h
  case h_2 => cases h
  rename_i n m hX hY
  split at h
  case isFalse => cases h
  rename_i hc
  obtain ⟨hn0, rfl, hroom, hzl⟩ := hc
  rw [hX] at hr; rw [hY] at hr'
  have e1 := hr.int_inv
  have e2 := hr'.int_inv
  simp only [Option.bind_eq_bind, Option.bind_eq_some_iff] at h
  obtain ⟨⟨l, i, σ1⟩, hn, h⟩ := h
  cases h
  have hvs : v.cells.size = wd := by have := hrz.length; simp at this; omega
  have hbytes : i0.bytes = bytes := by rw [hinfo] at hb; simpa using hb
  have hn63 : n < 2 ^ 63 := by
    have h1 : n * 1 ≤ n * bytes := Int.mul_le_mul_of_nonneg_left (by omega) hn0
    simp only [room] at hroom
    omega
  have hwrap : IntKind.i64.wrap n = n := by
    simp only [IntKind.wrap, IntKind.bits, IntKind.signed]
    have : n % 2 ^ 64 = n := Int.emod_eq_of_lt hn0 (by omega)
    simp only [this]
    rw [if_neg (by simp; omega)]
  have hflat := flat_zero v.cells (by omega) n.toNat
  have hrel : RelL g ((List.range n.toNat).flatMap fun _ => z) (((List.range n.toNat).flatMap fun _ => v.cells.toList)) := hrz.flatMap _
  obtain ⟨i1, i2⟩ := hi.newCells hn ((List.range n.toNat).flatMap fun _ => v.cells.toList) ((List.range n.toNat).flatMap fun _ => v.cells.toList).toArray el hrel (by simp) (fun j y hy => ⟨by simpa using hy, by
    have hm := List.mem_of_getElem? hy
    simp only [List.mem_flatMap] at hm; obtain ⟨_, _, hm⟩ := hm; exact h1 y hm⟩)
  have hsz : ((List.range n.toNat).flatMap fun _ => v.cells.toList).toArray.size = n.toNat * wd := by
    rw [List.size_toArray, len_flat]; simp [hvs]
  refine .val (.slice (some ⟨w.heap.size, 0, none⟩) n.toNat n.toNat) ?_ i2 i1 (.sl l i 0 0 _ wd _ _ _ G.setLoc_same (Nat.le_refl _) ⟨Nat.le_refl _, by omega⟩ (fun hh => by cases hh) (fun x hx _ => by cases hx; rfl) ?_ (fun hh => by cases hh))
  · have hbn : (bytes : Int) * n ≤ 2 ^ 46 := by rw [Int.mul_comm]; simpa [room] using hroom
    have harr : (Array.range (n.toNat * wd)).map (fun x => v.cells[x % v.cells.size]!) = ((List.range n.toNat).flatMap fun _ => v.cells.toList).toArray := by
      rw [← hflat, hvs]
      apply Array.ext'
      simp
    have htoo : (decide (n < 0) || decide ((bytes : Int) * n > 2 ^ 48)) = false := by simp; omega
    have hcond : ¬ (((decide (n < 0) || decide ((bytes : Int) * n > 2 ^ 48)) = true ∨ n < 0) ∨ n > n) := by rw [htoo]; simp; omega
    simp only [execOp, ho, Instr.makeSlice, Sem.run_bind, run_under ht, Result.andThen_ok, e1, e2, asInt, asIntOf, Sem.run_pure, run_typeInfo hinfo, hwrap, hbytes, Sem.run_ite]
    rw [htoo]
    simp only [Bool.false_eq_true, false_or, Bool.false_or]
    rw [if_neg (by simp; omega)]
    by_cases hz0 : n.toNat = 0
    · have : ((List.range n.toNat).flatMap fun _ => v.cells.toList).toArray = #[] := by rw [hz0]; rfl
      rw [this]
      simp [run_askRoom, run_sizeOf hw, hz0, newRow, Go.Array.range_zero']
    · have hne : n.toNat * wd ≠ 0 := Nat.mul_ne_zero hz0 (by omega)
      simp only [run_askRoom, Result.andThen_ok, run_sizeOf hw, hne, if_false, Sem.run_bind, run_zeroValue hinfo hzero, Sem.run_pure, harr]
      simp [newRow]
  · intro blk bo sz hL
    cases hL
    exact .inl ⟨rfl, by rw [hsz]; simp⟩

end ops
end Go.Abs
