/- The interpreter, part 0: proved sound against the model. -/
import GoSem.Core.View
import Derived.Lib.AtoiAll
import Derived.AtR
import Derived.Laws.Cells
import Derived.Laws.World
import Derived.Lib.FrozenHead
/-
  The abstract interpreter: a small instruction set with values as plain data; what a call answers is a Lean function of it. No model of memory but a stack of segments of blocks. Mine, for every seat.
-/
namespace Go.Abs

inductive D where
  | undef
  | bool (b : Bool)
  | int (k : IntKind) (n : Int)
  | str (s : List UInt8)
  | agg (cs : List D)
  | tup (cs : List D)
  | nilp
  | ref (l i v off : Nat)
  | cref (cs : List D)
  | nils
  | lst (n : Nat) (cs : List D)
  | sl (l i v off n w : Nat)
  | fn (f : Nat) (first cap : List D)
  | nilf
  | yld (l i : Nat)
  | own (s : Nat) (cs : List D)
  | vr (x s off : Nat)
  | ifc (t : Nat) (d : D)
  | nili
  | emp
  deriving Inhabited

mutual
def D.same : D → D → Bool
  | .undef, .undef => true
  | .bool a, .bool b => a == b
  | .int k n, .int k' n' => k == k' && n == n'
  | .str a, .str b => a == b
  | .agg a, .agg b => D.sameL a b
  | .tup a, .tup b => D.sameL a b
  | .nilp, .nilp => true
  | .ref a b c d, .ref a' b' c' d' => a == a' && b == b' && c == c' && d == d'
  | .cref a, .cref b => D.sameL a b
  | .nils, .nils => true
  | .lst n a, .lst m b => n == m && D.sameL a b
  | .sl a b c d e f, .sl a' b' c' d' e' f' => a == a' && b == b' && c == c' && d == d' && e == e' && f == f'
  | .fn f a b, .fn f' a' b' => f == f' && D.sameL a a' && D.sameL b b'
  | .nilf, .nilf => true
  | .yld a b, .yld a' b' => a == a' && b == b'
  | .own s a, .own s' b => s == s' && D.sameL a b
  | .vr a b c, .vr a' b' c' => a == a' && b == b' && c == c'
  | .ifc t a, .ifc t' b => t == t' && D.same a b
  | .nili, .nili => true
  | .emp, .emp => true
  | _, _ => false
def D.sameL : List D → List D → Bool
  | [], [] => true
  | a :: as, b :: bs => D.same a b && D.sameL as bs
  | _, _ => false
end

mutual
theorem same_eq : ∀ {a b : D}, D.same a b = true → a = b
  | .undef, b, h => by cases b <;> simp [D.same] at h; rfl
  | .bool _, b, h => by cases b <;> simp [D.same] at h; rw [h]
  | .int _ _, b, h => by cases b <;> simp [D.same] at h; rw [h.1, h.2]
  | .str _, b, h => by cases b <;> simp [D.same] at h; rw [h]
  | .agg _, b, h => by cases b <;> simp [D.same] at h; rw [sameL_eq h]
  | .tup _, b, h => by cases b <;> simp [D.same] at h; rw [sameL_eq h]
  | .nilp, b, h => by cases b <;> simp [D.same] at h; rfl
  | .ref .., b, h => by cases b <;> simp [D.same] at h; simp [h]
  | .cref _, b, h => by cases b <;> simp [D.same] at h; rw [sameL_eq h]
  | .nils, b, h => by cases b <;> simp [D.same] at h; rfl
  | .lst .., b, h => by cases b <;> simp [D.same] at h; rw [h.1, sameL_eq h.2]
  | .sl .., b, h => by cases b <;> simp [D.same] at h; simp [h]
  | .fn .., b, h => by cases b <;> simp [D.same] at h; rw [h.1.1, sameL_eq h.1.2, sameL_eq h.2]
  | .nilf, b, h => by cases b <;> simp [D.same] at h; rfl
  | .yld .., b, h => by cases b <;> simp [D.same] at h; simp [h]
  | .own .., b, h => by cases b <;> simp [D.same] at h; rw [h.1, sameL_eq h.2]
  | .vr .., b, h => by cases b <;> simp [D.same] at h; simp [h]
  | .ifc _ a, b, h => by cases b <;> simp [D.same] at h; rw [h.1, same_eq h.2]
  | .nili, b, h => by cases b <;> simp [D.same] at h; rfl
  | .emp, b, h => by cases b <;> simp [D.same] at h; rfl
theorem sameL_eq : ∀ {a b : List D}, D.sameL a b = true → a = b
  | [], [], _ => rfl
  | [], _ :: _, h => by simp [D.sameL] at h
  | _ :: _, [], h => by simp [D.sameL] at h
  | a :: as, b :: bs, h => by
    simp only [D.sameL, Bool.and_eq_true] at h
    rw [same_eq h.1, sameL_eq h.2]
end

mutual
theorem same_refl : ∀ (a : D), D.same a a = true
  | .undef => rfl
  | .bool b => by simp [D.same]
  | .int k n => by simp [D.same]
  | .str s => by simp [D.same]
  | .agg a => by simp [D.same, sameL_refl a]
  | .tup a => by simp [D.same, sameL_refl a]
  | .nilp => rfl
  | .ref .. => by simp [D.same]
  | .cref a => by simp [D.same, sameL_refl a]
  | .nils => rfl
  | .lst n a => by simp [D.same, sameL_refl a]
  | .sl .. => by simp [D.same]
  | .fn f a b => by simp [D.same, sameL_refl a, sameL_refl b]
  | .nilf => rfl
  | .yld .. => by simp [D.same]
  | .own s a => by simp [D.same, sameL_refl a]
  | .vr .. => by simp [D.same]
  | .ifc t a => by simp [D.same, same_refl a]
  | .nili => rfl
  | .emp => rfl
theorem sameL_refl : ∀ (a : List D), D.sameL a a = true
  | [] => rfl
  | a :: as => by simp [D.sameL, same_refl a, sameL_refl as]
end

instance : DecidableEq D := fun a b => if h : D.same a b = true then isTrue (same_eq h) else isFalse fun e => h (e ▸ same_refl a)

inductive Opd where
  | t (n : Nat)
  | c (d : D)
  deriving Inhabited, DecidableEq

inductive Pu where
  | slen
  | sidx
  | scat
  | ssub (lo hi : Bool)
  | seq (neg : Bool)
  deriving Inhabited, DecidableEq

def puD : Pu → List D → Option D
  | .slen, [.str s] => some (.int .i64 s.length)
  | .sidx, [.str s, .int _ i] => if 0 ≤ i then (s[i.toNat]?).map fun b => .int .u8 b.toNat else none
  | .scat, [.str a, .str b] => if a.length + b.length ≤ 4611686018427387904 then some (.str (a ++ b)) else none
  | .ssub true true, [.str s, .int _ i, .int _ j] => if 0 ≤ i ∧ i ≤ j ∧ j ≤ s.length then some (.str ((s.drop i.toNat).take (j.toNat - i.toNat))) else none
  | .ssub true false, [.str s, .int _ i] => if 0 ≤ i ∧ i ≤ s.length then some (.str (s.drop i.toNat)) else none
  | .ssub false true, [.str s, .int _ j] => if 0 ≤ j ∧ j ≤ s.length then some (.str (s.take j.toNat)) else none
  | .ssub false false, [.str s] => some (.str s)
  | .seq neg, [.str a, .str b] => some (.bool (if neg then !(a == b) else a == b))
  | _, _ => none

abbrev Ky := Option (Bool × List (Option IntKind))

inductive Mo where
  | make
  | bld (t e : Nat)
  | get (ky : Ky) (zero : D) (ok : Bool)
  | put (ky : Ky)
  | len
  | rng
  | ent
  deriving Inhabited, DecidableEq

inductive Me where
  | b2s
  | s2b
  | s2a (n w : Nat)
  | peq (neg : Bool)
  deriving Inhabited, DecidableEq

inductive K where
  | mv (x : Opd)
  | nilb (w : Nat)
  | pick (c a b : Opd)
  | alc (nb : List (Nat × Nat)) (cs : List D)
  | alcv (nb : List (Nat × Nat)) (cs : List D)
  | boxi (x : Opd)
  | boxm (x : Opd)
  | bxn (nb : List (Nat × Nat)) (x : Opd)
  | boxv (x : Opd)
  | bld (zero : List D) (parts : List (Nat × Nat × Opd))
  | bsi (n w : Nat) (zero : List D) (parts : List (Nat × Nat × Opd))
  | bsm (n w : Nat) (zero : List D) (parts : List (Nat × Nat × Opd))
  | ld (ag : Bool) (sz : Nat) (a : Opd)
  | ldi (ag : Bool) (sz : Nat) (a : Opd)
  | ld0 (ag : Bool) (sz : Nat) (a : Opd)
  | isn (ps neg : Bool) (x : Opd)
  | nck (x : Opd)
  | st (nb : List (Nat × Nat)) (sz : Nat) (a x : Opd)
  | stc (os : List Nat) (sz : Nat) (a x : Opd)
  | ldv (v : Nat) (ag : Bool) (sz : Nat) (a : Nat)
  | stv (v : Nat) (nb : List (Nat × Nat)) (sz : Nat) (a : Nat) (x : Opd)
  | bin (o : BinOp) (x y : Opd)
  | eqv (ag : Bool) (ks : List (Option IntKind)) (neg : Bool) (x y : Opd)
  | un (o : UnOp) (x : Opd)
  | cvt (k : IntKind) (x : Opd)
  | mkf (f : Nat) (first cap : List Opd)
  | mks (w bytes : Nat) (zero : List D) (l c : Opd)
  | slc (w : Nat) (x : Opd) (lo hi mx : Option Opd)
  | slca (len w : Nat) (x : Opd) (lo hi : Option Opd)
  | fadr (off : Nat) (x : Opd)
  | fld (ag : Bool) (off sz : Nat) (x : Opd)
  | idxA (len w : Nat) (x i : Opd)
  | idxS (w : Nat) (x i : Opd)
  | idxV (ag : Bool) (len w : Nat) (x i : Opd)
  | lenS (x : Opd)
  | lenC (n : Nat)
  | mn (x y : Opd)
  | mx (x y : Opd)
  | app (w bytes : Nat) (s x : Opd)
  | apc (os : List Nat) (w bytes : Nat) (s x : Opd)
  | apz (w bytes : Nat) (s x : Opd)
  | cpi (w bytes : Nat) (x : Opd)
  | cvz (x : Opd)
  | bse
  | ape (w bytes v : Nat) (x : Opd)
  | ext (x : Opd) (i : Nat)
  | pur (o : Pu) (xs : List Opd)
  | mp (o : Mo) (xs : List Opd)
  | me (o : Me) (xs : List Opd)
  | mki (t : Nat) (x : Opd)
  | tas (t : Nat) (zero : Option D) (x : Opd)
  | isi (neg : Bool) (x : Opd)
  | pan (x : Opd)
  | rcv
  | call (kp : Bool) (f : Opd) (args : List Opd)
  deriving Inhabited, DecidableEq

structure Op where
  dst : Option Nat
  grd : Option (Nat × Bool)
  ntr : Bool
  k : K
  deriving Inhabited, DecidableEq

inductive Cmd where
  | nop
  | frz (vs : List Nat)
  | reg (live : List Nat) (ops : List Op)
  | seq (a b : Cmd)
  | ite (c : Opd) (a b : Cmd)
  | blk (id : Nat) (a : Cmd)
  | loop (live : List Nat) (seg : Bool) (a : Cmd)
  | rngf (live : List Nat) (f : Opd) (params : List Nat) (asg body : Cmd)
  | mloop (live : List Nat) (it : Opd) (nx ok b : Nat) (a rest : Cmd)
  | treg (live : List Nat) (pre : List Op) (op : Op) (post : List Op)
  | dfr (f : Opd) (args : List Opd) (rest : Cmd)
  | exit (id : Nat)
  | ret
  deriving Inhabited, DecidableEq

inductive Exit where
  | normal
  | exit (id : Nat)
  | ret
  | thr (d : D)
  deriving Inhabited, DecidableEq

abbrev Env := List (Nat × D)

def get : Env → Nat → D
  | [], _ => .undef
  | (k, v) :: r, t => if k = t then v else get r t

def put (d : Option Nat) (v : D) (e : Env) : Env :=
  match d with
  | some t => (t, v) :: e
  | none => e

def D.calm : D → D
  | .vr .. => .undef
  | .emp => .undef
  | .own _ cs => .own 0 cs
  | d => d

def D.strip : D → D
  | .vr .. => .undef
  | .emp => .undef
  | .own .. => .undef
  | d => d

def restrict (live : List Nat) (e : Env) : Env := live.map fun t => (t, (get e t).calm)

def keys (e : Env) : List Nat := (e.map (·.1)).eraseDups

def strips (live : List Nat) (e : Env) : Env := live.map fun t => (t, (get e t).strip)

def liveAt (live : List Nat) (x : Exit) (e : Env) : List Nat :=
  match x with
  | .normal => live
  | _ => keys e

structure LoopSt where
  state : Nat
  pend : Option Exit
  env : Env
  params : List Nat
  asg : Cmd
  body : Cmd
  deriving DecidableEq

inductive Blk where
  | cells (v : Nat) (cs : List D)
  | dead
  | loop (l : LoopSt)
  deriving DecidableEq

abbrev Stack := List (List Blk)

def seg? : Stack → Nat → Option (List Blk)
  | [], _ => none
  | s :: σ, l => if σ.length = l then some s else seg? σ l

def setSeg : Stack → Nat → List Blk → Stack
  | [], _, _ => []
  | s :: σ, l, s' => if σ.length = l then s' :: σ else s :: setSeg σ l s'

def blk? (σ : Stack) (l i : Nat) : Option Blk := (seg? σ l).bind (·[i]?)

def setBlk (σ : Stack) (l i : Nat) (b : Blk) : Stack :=
  match seg? σ l with
  | some s => setSeg σ l (s.set i b)
  | none => σ

def cells? (σ : Stack) (l i v : Nat) : Option (List D) :=
  match blk? σ l i with
  | some (.cells v' cs) => if v' = v then some cs else none
  | _ => none

def newBlk (σ : Stack) (b : Blk) : Option (Nat × Nat × Stack) :=
  match σ with
  | [] => none
  | s :: σ' => some (σ'.length, s.length, (s ++ [b]) :: σ')

mutual
def D.clean : D → Bool
  | .ref .. => false
  | .sl .. => false
  | .yld .. => false
  | .vr .. => true
  | .emp => true
  | .own _ cs => D.cleanL cs
  | .agg cs => D.cleanL cs
  | .tup cs => D.cleanL cs
  | .cref cs => D.cleanL cs
  | .lst _ cs => D.cleanL cs
  | .fn _ a b => D.cleanL a && D.cleanL b
  | .undef => true
  | .bool _ => true
  | .int _ _ => true
  | .str _ => true
  | .nilp => true
  | .nils => true
  | .nilf => true
  | .ifc _ d => D.clean d
  | .nili => true
def D.cleanL : List D → Bool
  | [] => true
  | d :: ds => D.clean d && D.cleanL ds
end

def frz (l : Nat) : Nat → D → Stack → D × Stack
  | 0, _, σ => (.undef, σ)
  | n + 1, d, σ =>
    if d.clean then (d, σ) else
    match d with
    | .agg cs => let r := frzL (frz l n) cs σ; (.agg r.1, r.2)
    | .tup cs => let r := frzL (frz l n) cs σ; (.tup r.1, r.2)
    | .cref cs => let r := frzL (frz l n) cs σ; (.cref r.1, r.2)
    | .lst m cs => let r := frzL (frz l n) cs σ; (.lst m r.1, r.2)
    | .own s cs => let r := frzL (frz l n) cs σ; (.own s r.1, r.2)
    | .fn f a b => let r := frzL (frz l n) a σ; let r' := frzL (frz l n) b r.2; (.fn f r.1 r'.1, r'.2)
    | .ref l' i v off => if l' ≤ l then (.ref l' i v off, σ) else (.undef, σ)
    | .yld l' i => if l' ≤ l then (.yld l' i, σ) else (.undef, σ)
    | .sl l' i v off m w =>
      if l' ≤ l then (.sl l' i v off m w, σ) else
      match cells? σ l' i v with
      | some cs => let r := frzL (frz l n) ((cs.drop off).take (m * w)) (setBlk σ l' i .dead); (.lst m r.1, r.2)
      | none => (.undef, σ)
    | _ => (.undef, σ)
where
  frzL (f : D → Stack → D × Stack) : List D → Stack → List D × Stack
    | [], σ => ([], σ)
    | d :: ds, σ => let r := f d σ; let r' := frzL f ds r.2; (r.1 :: r'.1, r'.2)

def deep : Nat := 16

def frzE (l : Nat) : Env → Stack → Env × Stack
  | [], σ => ([], σ)
  | (t, d) :: e, σ => let r := frz l deep d σ; let r' := frzE l e r.2; ((t, r.1) :: r'.1, r'.2)

inductive Q where
  | call (kp : Bool) (f : Nat) (args : List D) (σ : Stack)
  | loop (live : List Nat) (seg : Bool) (c : Cmd) (env : Env) (σ : Stack)
  | round (l i : Nat) (args : List D) (σ : Stack)
  | mloop (live : List Nat) (it : Opd) (nx ok b : Nat) (c rest : Cmd) (env : Env) (σ : Stack)
  | dcall (f : Nat) (args : List D) (th : Option D) (σ : Stack)

inductive R where
  | val (d : D) (σ : Stack)
  | ctl (e : Exit) (env : Env) (σ : Stack)
  | thr (d : D) (σ : Stack)
  deriving DecidableEq

abbrev Oracle := Q → Option R

def opd (e : Env) : Opd → D
  | .t n => (get e n).strip
  | .c d => d

def D.cells : D → Option (List D)
  | .agg cs => some cs
  | .undef => none
  | .tup _ => none
  | .own .. => none
  | .vr .. => none
  | .emp => none
  | d => some [d]

def D.row (ag : Bool) (d : D) : Option (List D) :=
  match ag, d with
  | true, .agg cs => some cs
  | true, _ => none
  | false, .agg _ => none
  | false, d => d.cells

def fillD (e : Env) : List (Nat × Nat × Opd) → List D → Option (List D)
  | [], cs => some cs
  | (off, sz, x) :: r, cs =>
    match (opd e x).cells with
    | some p => if p.length = sz ∧ off + sz ≤ cs.length then fillD e r (cs.take off ++ p ++ cs.drop (off + sz)) else none
    | none => none

def eqK : List (Option IntKind) → List D → List D → Option Bool
  | [], [], [] => some true
  | some k :: ks, .int k1 a :: x, .int k2 b :: y => if k1 = k ∧ k2 = k then (eqK ks x y).map (a == b && ·) else none
  | none :: ks, .bool a :: x, .bool b :: y => (eqK ks x y).map (a == b && ·)
  | _, _, _ => none

def binD (o : BinOp) : D → D → Option D
  | .int k a, .int k' b =>
    match o with
    | .shl => if b < 0 then none else some (.int k (k.wrap (a * 2 ^ (min b.toNat k.bits))))
    | .shr => if b < 0 then none else some (.int k (a.fdiv (2 ^ (min b.toNat k.bits))))
    | .add => if k = k' then some (.int k (k.wrap (a + b))) else none
    | .sub => if k = k' then some (.int k (k.wrap (a - b))) else none
    | .mul => if k = k' then some (.int k (k.wrap (a * b))) else none
    | .quo => if k = k' ∧ b ≠ 0 then some (.int k (k.wrap (a.tdiv b))) else none
    | .rem => if k = k' ∧ b ≠ 0 then some (.int k (a.tmod b)) else none
    | .and => if k = k' then some (.int k (k.wrap ((BitVec.ofInt k.bits a &&& BitVec.ofInt k.bits b).toNat : Int))) else none
    | .or => if k = k' then some (.int k (k.wrap ((BitVec.ofInt k.bits a ||| BitVec.ofInt k.bits b).toNat : Int))) else none
    | .xor => if k = k' then some (.int k (k.wrap ((BitVec.ofInt k.bits a ^^^ BitVec.ofInt k.bits b).toNat : Int))) else none
    | .andNot => none
    | .eql => if k = k' then some (.bool (a == b)) else none
    | .neq => if k = k' then some (.bool (a != b)) else none
    | .lss => if k = k' then some (.bool (decide (a < b))) else none
    | .leq => if k = k' then some (.bool (decide (a ≤ b))) else none
    | .gtr => if k = k' then some (.bool (decide (a > b))) else none
    | .geq => if k = k' then some (.bool (decide (a ≥ b))) else none
  | _, _ => none

def intD : D → Option Int
  | .int _ n => some n
  | _ => none

def bnd (e : Env) (m : Nat) (dfl : Option Nat) : Option Opd → Option Nat
  | some x => match intD (opd e x) with
    | some n => if 0 ≤ n ∧ n ≤ m then some n.toNat else none
    | none => none
  | none => dfl

def bounds (len : Nat) (e : Env) (lo hi mx : Option Opd) : Option (Nat × Nat) :=
  (bnd e len (some len) mx).bind fun m => (bnd e m (if mx.isSome then none else some len) hi).bind fun h => (bnd e h (some 0) lo).map fun l => (l, h)

def keyQ (ky : Ky) (a b : D) : Option Bool :=
  match ky with
  | none => match a, b with
    | .str x, .str y => some (x == y)
    | _, _ => none
  | some (ag, ks) => match a.row ag, b.row ag with
    | some p, some q => eqK ks p q
    | _, _ => none

def findK (ky : Ky) (k : D) : List D → Option (Option (Nat × D))
  | [] => some none
  | .tup [k', v] :: es =>
    match keyQ ky k k' with
    | some true => some (some (0, v))
    | some false => (findK ky k es).map fun x => x.map fun y => (y.1 + 1, y.2)
    | none => none
  | _ => none

def mapD (σ : Stack) : D → Option (Nat × Nat × List D)
  | .yld l i => (cells? σ l i 0).map fun es => (l, i, es)
  | _ => none

def mpD (σ : Stack) : Mo → List D → Option (D × Stack)
  | .make, [] => (newBlk σ (.cells 0 [])).map fun x => (.yld x.1 x.2.1, x.2.2)
  | .bld t e, [] => (newBlk σ (.cells 2 [.int .i64 (t : Nat), .int .i64 (e : Nat), .str []])).map fun x => (.yld x.1 x.2.1, x.2.2)
  | .get ky zero ok, [m, k] =>
    match mapD σ m with
    | some (_, _, es) =>
      if (keyQ ky k k).isSome then
        match findK ky k es with
        | some (some (_, v)) => some (if ok then .tup [v, .bool true] else v, σ)
        | some none => some (if ok then .tup [zero, .bool false] else zero, σ)
        | none => none
      else none
    | none => none
  | .put ky, [m, k, v] =>
    match mapD σ m with
    | some (l, i, es) =>
      if (keyQ ky k k).isSome ∧ (l + 1 = σ.length ∨ (k.clean ∧ v.clean)) then
        match findK ky k es with
        | some (some (j, _)) => some (.undef, setBlk σ l i (.cells 0 (es.set j (.tup [k, v]))))
        | some none => some (.undef, setBlk σ l i (.cells 0 (es ++ [.tup [k, v]])))
        | none => none
      else none
    | none => none
  | .len, [m] => (mapD σ m).map fun x => (.int .i64 x.2.2.length, σ)
  | .rng, [m] =>
    match mapD σ m with
    | some (lm, im, es) => (newBlk σ (.cells 1 [.yld lm im, .int .i64 es.length])).map fun x => (.yld x.1 x.2.1, x.2.2)
    | none => none
  | .ent, [.yld l i] =>
    match cells? σ l i 1 with
    | some (m :: .int .i64 n :: .int .i64 j :: _) =>
      match mapD σ m with
      | some (_, _, es) => if (es.length : Int) = n then
          match es[j.toNat]? with
          | some (.tup [k, v]) => some (.tup [k, v], σ)
          | _ => none
        else none
      | none => none
    | _ => none
  | _, _ => none

def strCells (s : List UInt8) : List D := s.map fun b => .int .u8 b.toNat

def elems (σ : Stack) (w : Nat) : D → Option (Nat × List D)
  | .nils => some (0, [])
  | .str s => if w = 1 then some (s.length, strCells s) else none
  | .lst n cs => if cs.length = n * w then some (n, cs) else none
  | .sl l i v off n w' =>
    if w' = w then
      match cells? σ l i v with
      | some cs => if off + n * w ≤ cs.length then some (n, (cs.drop off).take (n * w)) else none
      | none => none
    else none
  | _ => none

def bytesD : List D → Option (List UInt8)
  | [] => some []
  | .int .u8 n :: r => (bytesD r).map (UInt8.ofNat n.toNat :: ·)
  | _ => none
def meD (σ : Stack) : Me → List D → Option (D × Stack)
  | .b2s, [.str _] => none
  | .b2s, [x] => (elems σ 1 x).bind fun r => (bytesD r.2).map fun s => (.str s, σ)
  | .s2b, [.str s] => some (.lst s.length (strCells s), σ)
  | .s2a n w, [.lst m cs] => if 0 < n ∧ n ≤ m then some (.cref (cs.take (n * w)), σ) else none
  | .peq neg, [.ref l i v o, .ref l' i' v' o'] => if l = l' ∧ i = i' ∧ o = o' ∧ v = v' ∧ (cells? σ l i v).isSome then some (.bool (!neg), σ) else none
  | _, _ => none

def room : Nat := 2 ^ 46

def nilbs : List (Nat × Nat) → List D → Stack → Option (List D × Stack)
  | [], cs, σ => some (cs, σ)
  | (p, w) :: r, cs, σ =>
    match cs[p]? with
    | some .nils => do
      let (l, i, σ') ← newBlk σ (.cells 0 [])
      nilbs r (cs.set p (.sl l i 0 0 0 w)) σ'
    | _ => nilbs r cs σ

def inVar (e : Env) (v a : Nat) : Option (Nat × List D × Nat) :=
  match get e v with
  | .own s cs =>
    if a = v then some (s, cs, 0) else
    match get e a with
    | .vr x s' off => if x = v ∧ s' = s then some (s, cs, off) else none
    | _ => none
  | _ => none

def stamp (e : Env) (v : Nat) : Nat :=
  match get e v with
  | .own s _ => s + 1
  | _ => 0

def rdD (σ : Stack) : D → Option (List D)
  | .cref cs => some cs
  | .ref l i v off => (cells? σ l i v).map (·.drop off)
  | _ => none

def rd0 (σ : Stack) : D → Option (List D)
  | .ref l i 0 off => rdD σ (.ref l i 0 off)
  | _ => none

def isnD (ps : Bool) (d : D) : Option Bool :=
  match ps, d with
  | true, .nilp => some true
  | true, .cref _ => some false
  | true, .ref .. => some false
  | false, .nils => some true
  | false, .lst n _ => if n = 0 then none else some false
  | false, .sl _ _ _ _ n _ => if n = 0 then none else some false
  | _, _ => none

def tasD (t : Nat) (z : Option D) : D → Option D
  | .ifc t' d => match z with
    | some z => some (if t' = t then .tup [d, .bool true] else .tup [z, .bool false])
    | none => if t' = t then some d else none
  | .nili => z.map fun z => .tup [z, .bool false]
  | _ => none
def isiD : D → Option Bool
  | .nili => some true
  | .ifc .. => some false
  | _ => none

def D.off (l i : Nat) : D → Bool
  | .ref l' i' _ _ => decide (¬ (l' = l ∧ i' = i))
  | _ => true

def appD (e : Env) (σ : Stack) (w bytes : Nat) (s x : Opd) : Option (D × Stack) := do
    let (m, xs) ← elems σ w (opd e x)
    match opd e s with
    | .nils =>
      if m * bytes ≤ room then
        if m = 0 then some (.lst 0 [], σ) else do
        let (l, i, σ') ← newBlk σ (.cells 0 xs)
        some (.sl l i 0 0 m w, σ')
      else none
    | .sl l i v off n w' =>
      match cells? σ l i v with
      | some cs =>
        if w' = w ∧ off + n * w ≤ cs.length ∧ (n + m) * bytes ≤ room then
          if l + 1 = σ.length then
            some (.sl l i (v + 1) 0 (n + m) w, setBlk σ l i (.cells (v + 1) ((cs.drop off).take (n * w) ++ xs)))
          else
            let r := frz.frzL (frz l deep) xs σ
            some (.sl l i (v + 1) 0 (n + m) w, setBlk r.2 l i (.cells (v + 1) ((cs.drop off).take (n * w) ++ r.1)))
        else none
      | none => none
    | _ => none

def sop (e : Env) (σ : Stack) : K → Option (D × Stack)
  | .mv x => some (opd e x, σ)
  | .nilb w => do
    let (l, i, σ') ← newBlk σ (.cells 0 [])
    some (.sl l i 0 0 0 w, σ')
  | .pick c a b =>
    match opd e c with
    | .bool t => some (if t then opd e a else opd e b, σ)
    | _ => none
  | .alc nb cs => do
    let (cs', σ1) ← nilbs nb cs σ
    let (l, i, σ') ← newBlk σ1 (.cells 0 cs')
    some (.ref l i 0 0, σ')
  | .boxi x => (opd e x).cells.map fun cs => (.cref cs, σ)
  | .boxm x => do
    let cs ← (opd e x).cells
    let (l, i, σ') ← newBlk σ (.cells 0 cs)
    some (.ref l i 0 0, σ')
  | .bxn nb x => do
    let cs ← (opd e x).cells
    let (cs', σ1) ← nilbs nb cs σ
    let (l, i, σ') ← newBlk σ1 (.cells 0 cs')
    some (.ref l i 0 0, σ')
  | .alcv .. => none
  | .boxv _ => none
  | .stv .. => none
  | .ldv v ag sz a =>
    match inVar e v a with
    | some (_, cs, off) =>
      let cs := cs.drop off
      if sz ≤ cs.length then
        if ag then some (.agg (cs.take sz), σ) else
        match cs with
        | d :: _ => some (d, σ)
        | [] => none
      else none
    | none => none
  | .bld zero parts => do
    let cs ← fillD e parts zero
    some (.agg cs, σ)
  | .bsi n _ zero parts => do
    let cs ← fillD e parts zero
    some (.lst n cs, σ)
  | .bsm n w zero parts => do
    let cs ← fillD e parts zero
    let (l, i, σ') ← newBlk σ (.cells 0 cs)
    some (.sl l i 0 0 n w, σ')
  | .ld ag sz a =>
    match rdD σ (opd e a) with
    | some cs =>
      if sz ≤ cs.length then
        if ag then some (.agg (cs.take sz), σ) else
        match cs with
        | d :: _ => some (d, σ)
        | [] => none
      else none
    | none => none
  | .ld0 ag sz a =>
    match rd0 σ (opd e a) with
    | some cs =>
      if sz ≤ cs.length then
        if ag then some (.agg (cs.take sz), σ) else
        match cs with
        | d :: _ => some (d, σ)
        | [] => none
      else none
    | none => none
  | .ldi ag sz a =>
    match opd e a with
    | .cref cs =>
      if sz ≤ cs.length then
        if ag then some (.agg (cs.take sz), σ) else
        match cs with
        | d :: _ => some (d, σ)
        | [] => none
      else none
    | _ => none
  | .isn ps neg x => (isnD ps (opd e x)).map fun b => (.bool (if neg then !b else b), σ)
  | .nck x =>
    match opd e x with
    | .cref cs => some (.cref cs, σ)
    | .ref l i v off => some (.ref l i v off, σ)
    | _ => none
  | .st nb sz a x =>
    match opd e a with
    | .ref l i v off =>
      match cells? σ l i v with
      | some cs =>
        match (opd e x).cells with
        | some p =>
          if p.length = sz ∧ off + sz ≤ cs.length then
            if l + 1 = σ.length then
              match nilbs nb p σ with
              | some (p', σ1) => some (.undef, setBlk σ1 l i (.cells v (cs.take off ++ p' ++ cs.drop (off + sz))))
              | none => none
            else
              let r := frz.frzL (frz l deep) p σ
              some (.undef, setBlk r.2 l i (.cells v (cs.take off ++ r.1 ++ cs.drop (off + sz))))
          else none
        | none => none
      | none => none
    | _ => none
  | .stc os sz a x =>
    match opd e a with
    | .ref l i v off =>
      if (os.all fun t => D.off l i (get e t)) = true then
        match cells? σ l i v with
        | some cs =>
          match (opd e x).cells with
          | some p =>
            if p.length = sz ∧ off + sz ≤ cs.length ∧ (D.cleanL p = true ∨ l + 1 = σ.length) then some (.undef, setBlk σ l i (.cells v (cs.take off ++ p ++ cs.drop (off + sz)))) else none
          | none => none
        | none => none
      else none
    | _ => none
  | .bin o x y => (binD o (opd e x) (opd e y)).map (·, σ)
  | .eqv ag ks neg x y =>
    match (opd e x).row ag, (opd e y).row ag with
    | some p, some q => (eqK ks p q).map fun b => (.bool (if neg then !b else b), σ)
    | _, _ => none
  | .un o x =>
    match o, opd e x with
    | .not, .bool b => some (.bool !b, σ)
    | .neg, .int k n => some (.int k (k.wrap (0 - n)), σ)
    | .xor, .int k n => some (.int k (k.wrap ((BitVec.ofInt k.bits (if k.signed then -1 else k.max) ^^^ BitVec.ofInt k.bits n).toNat : Int)), σ)
    | _, _ => none
  | .cvt k x =>
    match opd e x with
    | .int _ n => some (.int k (k.wrap n), σ)
    | _ => none
  | .mkf f first cap => some (.fn f (first.map (opd e)) (cap.map (opd e)), σ)
  | .mks w bytes zero l c =>
    match opd e l, opd e c with
    | .int .i64 n, .int .i64 m =>
      if 0 ≤ n ∧ n = m ∧ n * bytes ≤ (room : Int) ∧ zero.length = w then do
        let (l, i, σ') ← newBlk σ (.cells 0 ((List.range n.toNat).flatMap fun _ => zero))
        some (.sl l i 0 0 n.toNat w, σ')
      else none
    | _, _ => none
  | .slc w x lo hi mx =>
    match opd e x with
    | .lst n cs => (bounds n e lo hi mx).map fun b => (.lst (b.2 - b.1) ((cs.drop (b.1 * w)).take ((b.2 - b.1) * w)), σ)
    | .sl l i v off n w' => if w' = w then (bounds n e lo hi mx).map fun b => (.sl l i v (off + b.1 * w) (b.2 - b.1) w, σ) else none
    | .nils => (bounds 0 e lo hi mx).map fun _ => (.nils, σ)
    | _ => none
  | .slca len w x lo hi =>
    match opd e x with
    | .cref cs => (bounds len e lo hi none).map fun b => (.lst (b.2 - b.1) ((cs.drop (b.1 * w)).take ((b.2 - b.1) * w)), σ)
    | .ref l i v off =>
      match cells? σ l i v with
      | some cs => if len ≤ 1000000 ∧ off + len * w ≤ cs.length then (bounds len e lo hi none).map fun b => (.sl l i v (off + b.1 * w) (b.2 - b.1) w, σ) else none
      | none => none
    | _ => none
  | .fadr off x =>
    match x with
    | .t n =>
      match get e n with
      | .cref cs => some (.cref (cs.drop off), σ)
      | .ref l i v o => some (.ref l i v (o + off), σ)
      | .own s _ => some (.vr n s off, σ)
      | .vr v s o => some (.vr v s (o + off), σ)
      | _ => none
    | .c _ => none
  | .fld ag off sz x =>
    match opd e x with
    | .agg cs =>
      if off + sz ≤ cs.length then
        if ag then some (.agg ((cs.drop off).take sz), σ) else (cs[off]?).map (·, σ)
      else none
    | _ => none
  | .idxA len w x i =>
    match x, intD (opd e i) with
    | .t m, some n =>
      if 0 ≤ n ∧ n < len then
        match get e m with
        | .cref cs => some (.cref ((cs.drop (n.toNat * w)).take w), σ)
        | .ref l j v off => some (.ref l j v (off + n.toNat * w), σ)
        | .own s _ => some (.vr m s (n.toNat * w), σ)
        | .vr v s o => some (.vr v s (o + n.toNat * w), σ)
        | _ => none
      else none
    | _, _ => none
  | .idxS w x i =>
    match opd e x, intD (opd e i) with
    | .lst m cs, some n => if 0 ≤ n ∧ n < m then some (.cref ((cs.drop (n.toNat * w)).take w), σ) else none
    | .sl l j v off m w', some n => if 0 ≤ n ∧ n < m ∧ w' = w then some (.ref l j v (off + n.toNat * w), σ) else none
    | _, _ => none
  | .idxV ag len w x i =>
    match opd e x, intD (opd e i) with
    | .agg cs, some n =>
      if 0 ≤ n ∧ n < len ∧ (n.toNat + 1) * w ≤ cs.length then
        if ag then some (.agg ((cs.drop (n.toNat * w)).take w), σ) else (cs[n.toNat * w]?).map (·, σ)
      else none
    | _, _ => none
  | .lenS x =>
    match opd e x with
    | .nils => some (.int .i64 0, σ)
    | .lst n _ => some (.int .i64 n, σ)
    | .sl _ _ _ _ n _ => some (.int .i64 n, σ)
    | _ => none
  | .lenC n => some (.int .i64 n, σ)
  | .mn x y =>
    match opd e x, opd e y with
    | .int k a, .int _ b => some (.int k (min a b), σ)
    | _, _ => none
  | .mx x y =>
    match opd e x, opd e y with
    | .int k a, .int _ b => some (.int k (max a b), σ)
    | _, _ => none
  | .app w bytes s x => do
    let (m, xs) ← elems σ w (opd e x)
    match opd e s with
    | .nils =>
      if m * bytes ≤ room then
        if m = 0 then some (.lst 0 [], σ) else do
        let (l, i, σ') ← newBlk σ (.cells 0 xs)
        some (.sl l i 0 0 m w, σ')
      else none
    | .sl l i v off n w' =>
      match cells? σ l i v with
      | some cs =>
        if w' = w ∧ off + n * w ≤ cs.length ∧ (n + m) * bytes ≤ room then
          if l + 1 = σ.length then
            some (.sl l i (v + 1) 0 (n + m) w, setBlk σ l i (.cells (v + 1) ((cs.drop off).take (n * w) ++ xs)))
          else
            let r := frz.frzL (frz l deep) xs σ
            some (.sl l i (v + 1) 0 (n + m) w, setBlk r.2 l i (.cells (v + 1) ((cs.drop off).take (n * w) ++ r.1)))
        else none
      | none => none
    | _ => none
  | .apc os w bytes s x =>
    match opd e s with
    | .sl l i _ _ _ _ => if (os.all fun t => D.off l i (get e t)) = true then (elems σ w (opd e x)).bind fun r => if D.cleanL r.2 = true then appD e σ w bytes s x else none else none
    | _ => none
  | .apz w bytes s x => (appD e σ w bytes s x).map fun r => frz 0 deep r.1 r.2
  | .cpi w bytes x => do
    let (m, xs) ← elems σ w (opd e x)
    if m * bytes ≤ room then some (.lst m xs, σ) else none
  | .cvz x =>
    match opd e x with
    | .sl l i v off n w =>
      if 0 < n then
        match cells? σ l i v with
        | some cs => some (.lst n ((cs.drop off).take (n * w)), setBlk σ l i .dead)
        | none => none
      else none
    | _ => none
  | .bse => some (.emp, σ)
  | .ape w bytes v x =>
    match get e v with
    | .emp => (elems σ w (opd e x)).bind fun r => if r.1 * bytes ≤ room then some (.lst r.1 r.2, σ) else none
    | _ => none
  | .ext x i =>
    match opd e x with
    | .tup ds => (ds[i]?).map (·, σ)
    | _ => none
  | .pur o xs => (puD o (xs.map (opd e))).map (·, σ)
  | .mp o xs => mpD σ o (xs.map (opd e))
  | .me o xs => meD σ o (xs.map (opd e))
  | .mki t x => some (.ifc t (opd e x), σ)
  | .tas t z x => (tasD t z (opd e x)).map (·, σ)
  | .isi neg x => (isiD (opd e x)).map fun b => (.bool (if neg then !b else b), σ)
  | .pan _ => none
  | .rcv => none
  | .call _ _ _ => none

def R.vals : Option R → Option (D × Stack)
  | some (.val d σ) => some (d, σ)
  | _ => none

def R.ctls : Option R → Option (Exit × Env × Stack)
  | some (.ctl e env σ) => some (e, env, σ)
  | _ => none

def callv (O : Oracle) (kp : Bool) (fv : D) (args : List D) (σ : Stack) : Option (D × Stack) :=
  match fv with
  | .fn f first cap => R.vals (O (.call kp f (first ++ args ++ cap) σ))
  | .yld l i => R.vals (O (.round l i args σ))
  | _ => none

def callf (O : Oracle) (fv : D) (args : List D) (σ : Stack) : Option (D × Stack) :=
  match fv with
  | .fn f first cap => R.vals (O (.call false f (first ++ args ++ cap) σ))
  | _ => none

def aop (O : Oracle) (op : Op) (e : Env) (σ : Stack) : Option (Env × Stack) :=
  match op.k with
  | .call kp f args =>
    match callv O kp (opd e f) (args.map (opd e)) σ with
    | some (d, σ') => if op.ntr = true → σ' = σ then some (put op.dst d e, σ') else none
    | none => none
  | .alcv nb cs =>
    match op.dst, nilbs nb cs σ with
    | some v, some (cs', σ') => some ((v, .own (stamp e v) cs') :: e, σ')
    | _, _ => none
  | .boxv x =>
    match op.dst, (opd e x).cells with
    | some v, some cs => some ((v, .own (stamp e v) cs) :: e, σ)
    | _, _ => none
  | .stv v nb sz a x =>
    match inVar e v a, (opd e x).cells with
    | some (s, cs, off), some p =>
      if p.length = sz ∧ off + sz ≤ cs.length then
        match nilbs nb p σ with
        | some (p', σ') => some ((v, .own s (cs.take off ++ p' ++ cs.drop (off + sz))) :: e, σ')
        | none => none
      else none
    | _, _ => none
  | k => (sop e σ k).map fun x => (put op.dst x.1 e, x.2)

def D.bit : D → Option (Option Bool)
  | .bool b => some (some b)
  | .tup [] => some none
  | _ => none

def aops (O : Oracle) : List Op → Env → Stack → Option (Env × Stack)
  | [], e, σ => some (e, σ)
  | op :: r, e, σ =>
    match op.grd with
    | none => (aop O op e σ).bind fun x => aops O r x.1 x.2
    | some (g, want) =>
      match (get e g).bit with
      | some y => if y = some want then (aop O op e σ).bind fun x => aops O r x.1 x.2 else aops O r (put op.dst (.tup []) e) σ
      | none => none

def D.blur : D → D
  | .nils => .lst 0 []
  | d => d

def frzR (l i u : Nat) (σ : Stack) : D × Stack :=
  match cells? σ l i u with
  | some cs => let r := frz.frzL (frz 0 deep) cs (setBlk σ l i .dead); (.cref (r.1.map D.blur), r.2)
  | none => (.undef, σ)
def frzV (v : Nat) (e : Env) (σ : Stack) : Env × Stack :=
  match get e v with
  | .nils => ((v, .lst 0 []) :: e, σ)
  | .ref l i u 0 => let r := frzR l i u σ; ((v, r.1) :: e, r.2)
  | .own s cs => ((v, .own s (cs.map D.blur)) :: e, σ)
  | _ => (e, σ)

def frzs : List Nat → Env → Stack → Env × Stack
  | [], e, σ => (e, σ)
  | v :: vs, e, σ =>
    match get e v with
    | .sl l i u off m w => let r := frz 0 deep (.sl l i u off m w) σ; frzs vs ((v, r.1) :: e) r.2
    | .own s cs => let r := frz.frzL (frz 0 deep) cs σ; frzs vs ((v, .own s r.1) :: e) r.2
    | .agg cs => frzs vs ((v, .agg (cs.map D.blur)) :: e) σ
    | .undef => if 1000000 ≤ v then (let r := frzV (v - 1000000) e σ; frzs vs r.1 r.2) else frzs vs e σ
    | _ => frzs vs e σ

def callr (O : Oracle) (fv : D) (args : List D) (σ : Stack) : Option R :=
  match fv with
  | .fn f first cap => O (.call false f (first ++ args ++ cap) σ)
  | _ => none

def aoptR (O : Oracle) (live : List Nat) (dst : Option Nat) (post : List Op) (e : Env) : Option R → Option (Exit × Env × Stack)
  | some (.val d σ') => (aops O post (put dst d e) σ').map fun y => (.normal, restrict live y.1, y.2)
  | some (.thr d σ') => some (.thr d, e, σ')
  | _ => none

def aopt (O : Oracle) (live : List Nat) (op : Op) (post : List Op) (e : Env) (σ : Stack) : Option (Exit × Env × Stack) :=
  match op.grd, op.k with
  | none, .call false f args => aoptR O live op.dst post e (callr O (opd e f) (args.map (opd e)) σ)
  | none, .pan x => (match opd e x with
    | .ifc t d => if d.clean then some (.thr (.ifc t d), e, σ) else none
    | _ => none)
  | _, _ => none

def acode (O : Oracle) : Cmd → Env → Stack → Option (Exit × Env × Stack)
  | .nop, e, σ => some (.normal, e, σ)
  | .frz vs, e, σ => let r := frzs vs e σ; some (.normal, r.1, r.2)
  | .reg live ops, e, σ => (aops O ops e σ).map fun x => (.normal, restrict live x.1, x.2)
  | .seq a b, e, σ => (acode O a e σ).bind fun x =>
    match x.1 with
    | .normal => acode O b x.2.1 x.2.2
    | _ => some x
  | .ite c a b, e, σ =>
    match opd e c with
    | .bool t => if t then acode O a e σ else acode O b e σ
    | _ => none
  | .blk id a, e, σ => (acode O a e σ).map fun x =>
    match x.1 with
    | .exit j => if j = id then (.normal, x.2) else x
    | _ => x
  | .loop live seg a, e, σ => R.ctls (O (.loop live seg a e σ))
  | .rngf live f params asg body, e, σ =>
    match newBlk σ (.loop { state := 0, pend := none, env := strips live e, params, asg, body }) with
    | some (l, i, σ1) =>
      match callf O (opd e f) [.yld l i] σ1 with
      | some (_, σ2) =>
        match blk? σ2 l i with
        | some (.loop lp) =>
          if lp.state = 1 then none else
          some (lp.pend.getD .normal, restrict live e, setBlk σ2 l i (.loop { lp with state := 3 }))
        | _ => none
      | none => none
    | none => none
  | .mloop live it nx ok b a rest, e, σ => R.ctls (O (.mloop live it nx ok b a rest e σ))
  | .treg live pre op post, e, σ => (aops O pre e σ).bind fun x => aopt O live op post x.1 x.2
  | .dfr .., _, _ => none
  | .exit id, e, σ => some (.exit id, e, σ)
  | .ret, e, σ => some (.ret, e, σ)

inductive Res where
  | t (n : Nat)
  | c (n : Nat) (ag : Bool) (sz : Nat)
  | v (n : Nat) (ag : Bool) (sz : Nat)

structure Fn where
  npar : Nat
  res : List Res
  body : Cmd

def resD (e : Env) (σ : Stack) : Res → Option D
  | .t n => some (get e n).strip
  | .c n ag sz => (sop e σ (.ld ag sz (.t n))).map (·.1)
  | .v n ag sz => (sop e σ (.ldv n ag sz n)).map (·.1)

def resL (e : Env) (σ : Stack) : List Res → Option (List D)
  | [] => some []
  | r :: rs => (resD e σ r).bind fun d => (resL e σ rs).map fun ds => d :: ds

def mkRes : List D → D
  | [d] => d
  | ds => .tup ds

def mkEnv (n : Nat) : List D → Env
  | [] => []
  | d :: ds => (n, d) :: mkEnv (n + 1) ds

def putAll : List Nat → List D → Env → Env
  | t :: ts, d :: ds, e => putAll ts ds ((t, d) :: e)
  | _, _, e => e

abbrev Tbl := Nat → Option Fn


def intsOf : List D → Option (List Int)
  | [] => some []
  | .int .i64 z :: r => (intsOf r).map (z :: ·)
  | _ => none
def insI (x : Int) : List Int → List Int
  | [] => [x]
  | y :: l => if x ≤ y then x :: y :: l else y :: insI x l
def sortI : List Int → List Int
  | [] => []
  | x :: l => insI x (sortI l)
def intCells (l : List Int) : List D := l.map (.int .i64)
def compT (x : Int) : List Int → List Int
  | [] => []
  | y :: l => if y = x then compT x l else y :: compT y l
def compI : List Int → List Int
  | [] => []
  | x :: l => x :: compT x l
def natRow (k : Nat) (zs : List Int) : List Int := if k = 1 then sortI zs else compI zs ++ List.replicate (zs.length - (compI zs).length) 0
def natRes (k l i v off : Nat) (zs : List Int) : D := if k = 1 then .tup [] else .sl l i v off (compI zs).length 1
def natR (k : Nat) (args : List D) (σ : Stack) : Option R :=
  match args with
  | [.sl l i v off n w] =>
    if n ≠ 0 ∧ w = 1 ∧ n ≤ 1000000 then
      match cells? σ l i v with
      | some cs =>
        if off + n ≤ cs.length then
          match intsOf ((cs.drop off).take n) with
          | some zs => some (.val (natRes k l i v off zs) (setBlk σ l i (.cells v (cs.take off ++ intCells (natRow k zs) ++ cs.drop (off + n)))))
          | none => none
        else none
      | none => none
    else none
  | _ => none

def decF : Nat → Nat → List UInt8
  | 0, _ => []
  | k + 1, u => if u < 10 then [UInt8.ofNat (48 + u)] else decF k (u / 10) ++ [UInt8.ofNat (48 + u % 10)]
def itoaF (n : Int) : List UInt8 := if n < 0 then 45 :: decF 20 n.natAbs else decF 20 n.toNat
def strsOf : List D → Option (List (List UInt8))
  | [] => some []
  | .str s :: r => (strsOf r).map (s :: ·)
  | _ => none
def joinF (sep : List UInt8) : List (List UInt8) → List UInt8
  | [] => []
  | x :: r => x ++ r.flatMap (sep ++ ·)
def splitF (b : UInt8) : List UInt8 → List (List UInt8)
  | [] => [[]]
  | c :: r => if c = b then [] :: splitF b r else match splitF b r with
    | x :: l => (c :: x) :: l
    | [] => [[c]]
def atoiF (s : List UInt8) : Nat × Int :=
  match Lib.atoiAll s with
  | .ok v => (0, v)
  | Lib.NumEnd.syntax => (1, 0)
  | .range => (2, Lib.atoiSat s)
def delF (a b : Nat) (xs : List (List UInt8)) : List (List UInt8) := xs.take a ++ xs.drop b ++ List.replicate (b - a) []
def natQ (k : Nat) (args : List D) (σ : Stack) : Option R :=
  match k % 16, args with
  | 3, [.int .i64 n] => if -9223372036854775808 ≤ n ∧ n ≤ 9223372036854775807 then some (.val (.str (itoaF n)) σ) else none
  | 4, [.str s] => if s.length ≤ 1000000 then some (.val (.tup [.int .i64 (atoiF s).2, if (atoiF s).1 = 0 then .nili else .ifc (k / 16) .undef]) σ) else none
  | 5, [.lst n cs, .str sep] =>
    match strsOf cs with
    | some xs => if n = xs.length ∧ n ≤ 1000 ∧ (joinF sep xs).length ≤ 1000000 then some (.val (.str (joinF sep xs)) σ) else none
    | none => none
  | 6, [.str s, .str [b]] => if s.length ≤ 1000000 then some (.val (.lst (splitF b s).length ((splitF b s).map .str)) σ) else none
  | 7, [.yld l i, .str s] =>
    match cells? σ l i 2 with
    | some [.int .i64 t, .int .i64 e, .str bs] =>
      if t = ((k / 16 % 65536 : Nat) : Int) ∧ e = ((k / 16 / 65536 : Nat) : Int) ∧ bs.length + s.length ≤ 1000000 then
        some (.val (.tup [.int .i64 s.length, .nili]) (setBlk σ l i (.cells 2 [.int .i64 t, .int .i64 e, .str (bs ++ s)])))
      else none
    | _ => none
  | 8, [.yld l i] =>
    match cells? σ l i 2 with
    | some [.int .i64 t, .int .i64 e, .str bs] => if t = ((k / 16 % 65536 : Nat) : Int) ∧ e = ((k / 16 / 65536 : Nat) : Int) ∧ bs ≠ [] then some (.val (.str bs) σ) else none
    | _ => none
  | 9, [.sl l i v off n w, .int .i64 a, .int .i64 b] =>
    if n ≠ 0 ∧ w = 1 ∧ n ≤ 1000000 ∧ 0 ≤ a ∧ a ≤ b ∧ b ≤ (n : Int) then
      match cells? σ l i v with
      | some cs =>
        if off + n ≤ cs.length then
          match strsOf ((cs.drop off).take n) with
          | some xs => some (.val (.sl l i v off (n - (b.toNat - a.toNat)) 1) (setBlk σ l i (.cells v (cs.take off ++ (delF a.toNat b.toNat xs).map .str ++ cs.drop (off + n)))))
          | none => none
        else none
      | none => none
    else none
  | 0, _ => none
  | 9, _ => none
  | 10, _ => none
  | 11, _ => none
  | 12, _ => none
  | 13, _ => none
  | 14, _ => none
  | 15, _ => none
  | 1, args => natR 1 args σ
  | 2, args => natR 2 args σ
  | _, _ => none

def iterD (σ : Stack) (l i : Nat) : Option (D × Nat × List D × List Nat) :=
  match cells? σ l i 1 with
  | some (m :: .int .i64 n :: js) =>
    match mapD σ m with
    | some (_, _, es) => if (es.length : Int) = n then some (m, es.length, js, (List.range es.length).filter fun j => !(js.contains (.int .i64 j))) else none
    | none => none
  | _ => none

def agree : List (Option R) → Option R
  | [] => none
  | r :: rs => if ∀ x ∈ rs, x = r then r else none

def mend (O : Oracle) (l i b : Nat) (rest : Cmd) : Option (Exit × Env × Stack) → Option R
  | some (.exit j, e1, σ1) =>
    if j = b then (acode O rest e1 (setBlk σ1 l i .dead)).map fun x => .ctl x.1 x.2.1 x.2.2
    else some (.ctl (.exit j) e1 (setBlk σ1 l i .dead))
  | some (.ret, e1, σ1) => some (.ctl .ret e1 (setBlk σ1 l i .dead))
  | _ => none
def mnext (O : Oracle) (live : List Nat) (it : Opd) (l i nx ok b : Nat) (c rest : Cmd) : Option (Exit × Env × Stack) → Option R
  | some (.normal, e1, σ1) => O (.mloop live it nx ok b c rest e1 σ1)
  | y => mend O l i b rest y

def splitT : Cmd → Option (Cmd × Opd × List Opd × Cmd)
  | .dfr f args q => some (.nop, f, args, q)
  | .seq a b => (splitT b).map fun x => (.seq a x.1, x.2)
  | _ => none

def thrown (kp : Bool) (d : D) : Stack → Option R
  | _ :: σ => if kp = false ∧ d.clean = true then some (.thr d σ) else none
  | [] => none

def leave (res : List Res) (σ : Stack) (e : Env) (σ1 : Stack) : Option R :=
  match resL e σ1 res with
  | some ds => (match frz (σ.length - 1) deep (mkRes ds) σ1 with
    | (d, _ :: σ2) => some (.val d σ2)
    | _ => none)
  | none => none

def dcallR (O : Oracle) (fv : D) (args : List D) (th : Option D) (σ : Stack) : Option R :=
  match fv with
  | .fn f first cap => O (.dcall f (first ++ args ++ cap) th σ)
  | _ => none

def dleave (res : List Res) (σ : Stack) (e : Env) : Option R → Option R
  | some (.val _ σ1) => leave res σ e σ1
  | _ => none

def dtail (O : Oracle) (res : List Res) (σ : Stack) (fv : D) (args : List D) : Option (Exit × Env × Stack) → Option R
  | some (.thr d, e, σ1) => dleave res σ e (dcallR O fv args (some d) σ1)
  | some (.normal, e, σ1) => dleave res σ e (dcallR O fv args none σ1)
  | some (.ret, e, σ1) => dleave res σ e (dcallR O fv args none σ1)
  | _ => none

def dbody (O : Oracle) (fn : Fn) (σ : Stack) : Option (Cmd × Opd × List Opd × Cmd) → Env → Stack → Option R
  | some (a, f, args, q), e0, σ0 =>
    (match acode O a e0 σ0 with
    | some (.normal, e, σ1) => dtail O fn.res σ (opd e f) (args.map (opd e)) (acode O q e σ1)
    | _ => none)
  | none, _, _ => none

def afterRcv (th : Option D) (args : List D) : Cmd → Option (Env × Cmd)
  | .seq (.reg live [⟨some t, none, _, .rcv⟩]) q => (match q with
    | .mloop .. => none
    | q => some (restrict live ((t, th.getD .nili) :: mkEnv 0 args), q))
  | _ => none

def stepQ (T : Tbl) (O : Oracle) : Q → Option R
  | .call kp f args σ =>
    match T f with
    | some fn =>
      if args.length = fn.npar then
        match acode O fn.body (mkEnv 0 args) (if kp then σ else [] :: σ) with
        | some (.exit _, _, _) => none
        | some (.thr d, _, σ1) => thrown kp d σ1
        | some (_, e, σ1) =>
          match resL e σ1 fn.res with
          | some ds =>
            if kp then some (.val (mkRes ds) σ1) else
            match frz (σ.length - 1) deep (mkRes ds) σ1 with
            | (d, _ :: σ2) => some (.val d σ2)
            | _ => none
          | none => none
        | none => if kp then none else dbody O fn σ (splitT fn.body) (mkEnv 0 args) ([] :: σ)
      else none
    | none =>
      match T (1000000 + f) with
      | some fn => natQ fn.npar args σ
      | none => none
  | .loop live seg c e σ =>
    match acode O c (restrict live e) (if seg then [] :: σ else σ) with
    | some (x, e1, σ1) =>
      let (e2, σ2) := if seg then (let r := frzE (σ.length - 1) (restrict (liveAt live x e1) e1) σ1; (r.1, r.2.tail)) else (e1, σ1)
      match x with
      | .normal => O (.loop live seg c e2 σ2)
      | x => some (.ctl x e2 σ2)
    | none => none
  | .round l i args σ =>
    match blk? σ l i with
    | some (.loop lp) =>
      if args.length = lp.params.length then
        match acode O lp.asg (putAll lp.params args lp.env) ([] :: σ) with
        | some (.normal, e1, σ1) =>
          match blk? σ1 l i with
          | some (.loop lp1) =>
            if lp1.state = 0 then
              match acode O lp.body e1 (setBlk σ1 l i (.loop { lp1 with state := 1 })) with
              | some (x, _, _ :: σ2) =>
                match blk? σ2 l i with
                | some (.loop lp2) =>
                  match x with
                  | .thr _ => none
                  | .normal => some (.val (.bool true) (setBlk σ2 l i (.loop { lp2 with state := 0, pend := none })))
                  | x => some (.val (.bool false) (setBlk σ2 l i (.loop { lp2 with state := 2, pend := some x })))
                | _ => none
              | _ => none
            else none
          | _ => none
        | _ => none
      else none
    | _ => none
  | .mloop live it nx ok b c rest e σ =>
    match opd (restrict live e) it with
    | .yld l i =>
      match iterD σ l i with
      | some (_, _, _, []) => mend O l i b rest (acode O c ((ok, .bool false) :: (nx, .undef) :: restrict live e) σ)
      | some (m, n, js, us) => agree (us.map fun u => mnext O live it l i nx ok b c rest (acode O c ((ok, .bool true) :: (nx, .undef) :: restrict live e) (setBlk σ l i (.cells 1 (m :: .int .i64 (n : Nat) :: .int .i64 (u : Nat) :: js)))))
      | none => none
    | _ => none
  | .dcall f args th σ =>
    match T f with
    | some fn =>
      if args.length = fn.npar then
        match afterRcv th args fn.body with
        | some (e0, q) =>
          match acode O q e0 ([] :: σ) with
          | some (.exit _, _, _) => none
          | some (.thr _, _, _) => none
          | some (_, e, σ1) =>
            match resL e σ1 fn.res, σ1 with
            | some [], _ :: σ2 => some (.val (.tup []) σ2)
            | _, _ => none
          | none => none
        | none => none
      else none
    | none => none

def it (T : Tbl) : Nat → Oracle
  | 0 => fun _ => none
  | n + 1 => stepQ T (it T n)

open Classical in
noncomputable def lim (T : Tbl) : Oracle := fun q =>
  if h : ∃ n r, it T n q = some r then some h.choose_spec.choose else none

end Go.Abs

/-
  What is answered at last is what one step more answers.
-/
set_option linter.unusedVariables false
set_option linter.unusedSimpArgs false
namespace Go.Abs

def Hangs {α : Type} (O : Oracle) (F : Oracle → Option α) (x : α) : Prop :=
  ∃ L : List (Q × R), (∀ p ∈ L, O p.1 = some p.2) ∧ ∀ O' : Oracle, (∀ p ∈ L, O' p.1 = some p.2) → F O' = some x

variable {α β γ : Type} {O : Oracle}

theorem Hangs.const {x : α} : Hangs O (fun _ => some x) x := ⟨[], by simp, fun _ _ => rfl⟩

theorem Hangs.of {F : Oracle → Option α} {x : α} (h : ∀ O', F O' = some x) : Hangs O F x := ⟨[], by simp, fun O' _ => h O'⟩

theorem Hangs.ask {q : Q} {r : R} (h : O q = some r) : Hangs O (fun O' => O' q) r := ⟨[(q, r)], by simpa using h, fun O' h' => h' (q, r) (by simp)⟩

theorem Hangs.andThen {F : Oracle → Option α} {G : Oracle → Option β} {x : α} {y : β} (h1 : Hangs O F x) (h2 : Hangs O G y) {H : Oracle → Option γ} {z : γ}
    (h : ∀ O', F O' = some x → G O' = some y → H O' = some z) : Hangs O H z := by
  obtain ⟨L1, k1, k2⟩ := h1
  obtain ⟨L2, k3, k4⟩ := h2
  refine ⟨L1 ++ L2, fun p hp => ?_, fun O' h' => h O' (k2 O' fun p hp => h' p (by simp [hp])) (k4 O' fun p hp => h' p (by simp [hp]))⟩
  rcases List.mem_append.1 hp with hp | hp
  · exact k1 p hp
  · exact k3 p hp

theorem Hangs.map {F : Oracle → Option α} {x : α} (h1 : Hangs O F x) {H : Oracle → Option β} {z : β} (h : ∀ O', F O' = some x → H O' = some z) : Hangs O H z := by
  obtain ⟨L1, k1, k2⟩ := h1
  exact ⟨L1, k1, fun O' h' => h O' (k2 O' h')⟩

theorem agree_all {α : Type} {us : List α} {f : α → Option R} {r : R} (h : agree (us.map f) = some r) : ∀ u ∈ us, f u = some r := by
  cases us with
  | nil => simp [agree] at h
  | cons v vs =>
    simp only [List.map_cons, agree] at h
    split at h
    · rename_i hall
      intro u hu
      rcases List.mem_cons.1 hu with rfl | hu
      · exact h
      · rw [hall (f u) (List.mem_map.2 ⟨u, hu, rfl⟩)]; exact h
    · cases h
theorem all_agree {α : Type} {us : List α} {f : α → Option R} {r : R} (hne : us ≠ []) (h : ∀ u ∈ us, f u = some r) : agree (us.map f) = some r := by
  cases us with
  | nil => exact absurd rfl hne
  | cons v vs =>
    simp only [List.map_cons, agree]
    rw [if_pos, h v (by simp)]
    intro x hx
    obtain ⟨u, hu, rfl⟩ := List.mem_map.1 hx
    rw [h u (by simp [hu]), h v (by simp)]

theorem hangs_callv {kp : Bool} {fv : D} {args : List D} {σ : Stack} {x : D × Stack} (h : callv O kp fv args σ = some x) : Hangs O (fun O' => callv O' kp fv args σ) x := by
  cases fv <;> simp only [callv, reduceCtorEq] at h
  · rename_i f first cap
    cases hq : O (.call kp f (first ++ args ++ cap) σ) with
    | none => rw [hq] at h; cases h
    | some r => exact (Hangs.ask hq).map fun O' h' => by simp only [callv, h']; rw [hq] at h; exact h
  · rename_i l i
    cases hq : O (.round l i args σ) with
    | none => rw [hq] at h; cases h
    | some r => exact (Hangs.ask hq).map fun O' h' => by simp only [callv, h']; rw [hq] at h; exact h

theorem hangs_callf {fv : D} {args : List D} {σ : Stack} {x : D × Stack} (h : callf O fv args σ = some x) : Hangs O (fun O' => callf O' fv args σ) x := by
  cases fv <;> simp only [callf, reduceCtorEq] at h
  rename_i f first cap
  cases hq : O (.call false f (first ++ args ++ cap) σ) with
  | none => rw [hq] at h; cases h
  | some r => exact (Hangs.ask hq).map fun O' h' => by simp only [callf, h']; rw [hq] at h; exact h

theorem hangs_aop {op : Op} {e : Env} {σ : Stack} {x : Env × Stack} (h : aop O op e σ = some x) : Hangs O (fun O' => aop O' op e σ) x := by
  obtain ⟨dst, grd, ntr, k⟩ := op
  cases k
  case call kp f args =>
    simp only [aop] at h
    cases hc : callv O kp (opd e f) (args.map (opd e)) σ with
    | none => rw [hc] at h; cases h
    | some y => exact (hangs_callv hc).map fun O' h' => by simp only [aop, h']; rw [hc] at h; exact h
  all_goals exact .of fun O' => h

theorem hangs_aops : ∀ {ops : List Op} {e : Env} {σ : Stack} {x : Env × Stack}, aops O ops e σ = some x → Hangs O (fun O' => aops O' ops e σ) x
  | [], e, σ, x, h => .of fun O' => h
  | op :: r, e, σ, x, h => by
    simp only [aops] at h
    cases hg : op.grd with
    | none =>
      rw [hg] at h
      simp only [Option.bind_eq_some_iff] at h
      obtain ⟨y, h1, h2⟩ := h
      exact (hangs_aop h1).andThen (hangs_aops h2) fun O' k1 k2 => by simp only [aops, hg, k1, Option.bind_some, k2]
    | some p =>
      obtain ⟨g, want⟩ := p
      rw [hg] at h
      dsimp only at h
      cases hb : (get e g).bit <;> rw [hb] at h <;> try (cases h; done)
      rename_i b
      dsimp only at h
      split at h
      · rename_i hw
        simp only [Option.bind_eq_some_iff] at h
        obtain ⟨y, h1, h2⟩ := h
        exact (hangs_aop h1).andThen (hangs_aops h2) fun O' k1 k2 => by simp only [aops, hg, hb, if_pos hw, k1, Option.bind_some, k2]
      · rename_i hw
        exact (hangs_aops h).map fun O' k1 => by simp only [aops, hg, hb, if_neg hw, k1]

theorem hangs_callr {fv : D} {args : List D} {σ : Stack} {r : R} (h : callr O fv args σ = some r) : Hangs O (fun O' => callr O' fv args σ) r := by
  cases fv <;> simp only [callr, reduceCtorEq] at h
  exact (Hangs.ask h).map fun O' h' => by simp only [callr, h']

theorem hangs_aoptR {live : List Nat} {dst : Option Nat} {post : List Op} {e : Env} {r : Option R} {x : Exit × Env × Stack} (h : aoptR O live dst post e r = some x) : Hangs O (fun O' => aoptR O' live dst post e r) x := by
  cases r with
  | none => simp [aoptR] at h
  | some r =>
    cases r with
    | val d σ' =>
      simp only [aoptR, Option.map_eq_some_iff] at h
      obtain ⟨y, h1, rfl⟩ := h
      exact (hangs_aops h1).map fun O' k => by simp only [aoptR, k, Option.map_some]
    | thr d σ' => exact .of fun O' => h
    | ctl => simp [aoptR] at h

theorem hangs_aopt {live : List Nat} {op : Op} {post : List Op} {e : Env} {σ : Stack} {x : Exit × Env × Stack} (h : aopt O live op post e σ = some x) : Hangs O (fun O' => aopt O' live op post e σ) x := by
  obtain ⟨dst, grd, ntr, k⟩ := op
  cases grd with
  | some _ => simp [aopt] at h
  | none =>
  cases k
  case call kp f args =>
    cases kp with
    | true => simp [aopt] at h
    | false =>
      simp only [aopt] at h
      cases hc : callr O (opd e f) (args.map (opd e)) σ with
      | none => rw [hc] at h; simp [aoptR] at h
      | some r =>
        rw [hc] at h
        exact (hangs_callr hc).andThen (hangs_aoptR h) fun O' k1 k2 => by simp only [aopt, k1, k2]
  case pan y => exact .of fun O' => h
  all_goals simp [aopt] at h

theorem hangs_acode : ∀ {c : Cmd} {e : Env} {σ : Stack} {x : Exit × Env × Stack}, acode O c e σ = some x → Hangs O (fun O' => acode O' c e σ) x
  | .nop, e, σ, x, h => .of fun O' => h
  | .frz _, e, σ, x, h => .of fun O' => h
  | .exit id, e, σ, x, h => .of fun O' => h
  | .ret, e, σ, x, h => .of fun O' => h
  | .reg live ops, e, σ, x, h => by
    simp only [acode, Option.map_eq_some_iff] at h
    obtain ⟨y, h1, rfl⟩ := h
    exact (hangs_aops h1).map fun O' k => by simp only [acode, k, Option.map_some]
  | .seq a b, e, σ, x, h => by
    simp only [acode, Option.bind_eq_some_iff] at h
    obtain ⟨⟨x1, e1, σ1⟩, h1, h2⟩ := h
    cases x1 with
    | normal => exact (hangs_acode h1).andThen (hangs_acode h2) fun O' k1 k2 => by simp only [acode, k1, Option.bind_some, k2]
    | exit id => exact (hangs_acode h1).map fun O' k1 => by simp only [acode, k1, Option.bind_some]; exact h2
    | ret => exact (hangs_acode h1).map fun O' k1 => by simp only [acode, k1, Option.bind_some]; exact h2
    | thr d => exact (hangs_acode h1).map fun O' k1 => by simp only [acode, k1, Option.bind_some]; exact h2
  | .ite c a b, e, σ, x, h => by
    simp only [acode] at h
    cases hb : opd e c <;> rw [hb] at h <;> try (cases h; done)
    rename_i t
    cases t with
    | true => exact (hangs_acode (by simpa using h)).map fun O' k => by simp only [acode, hb, if_true, k]
    | false => exact (hangs_acode (by simpa using h)).map fun O' k => by simp only [acode, hb, Bool.false_eq_true, if_false, k]
  | .blk id a, e, σ, x, h => by
    simp only [acode, Option.map_eq_some_iff] at h
    obtain ⟨y, h1, rfl⟩ := h
    exact (hangs_acode h1).map fun O' k => by simp only [acode, k, Option.map_some]
  | .treg live pre op post, e, σ, x, h => by
    simp only [acode, Option.bind_eq_some_iff] at h
    obtain ⟨⟨e1, σ1⟩, h1, h2⟩ := h
    exact (hangs_aops h1).andThen (hangs_aopt h2) fun O' k1 k2 => by simp only [acode, k1, Option.bind_some, k2]
  | .dfr .., e, σ, x, h => by simp [acode] at h
  | .mloop live it nx ok b a rest, e, σ, x, h => by
    simp only [acode] at h
    cases hq : O (.mloop live it nx ok b a rest e σ) with
    | none => rw [hq] at h; cases h
    | some r => exact (Hangs.ask hq).map fun O' h' => by simp only [acode, h']; rw [hq] at h; exact h
  | .loop live seg a, e, σ, x, h => by
    simp only [acode] at h
    cases hq : O (.loop live seg a e σ) with
    | none => rw [hq] at h; cases h
    | some r => exact (Hangs.ask hq).map fun O' k => by simp only [acode, k]; rw [hq] at h; exact h
  | .rngf live f params asg body, e, σ, x, h => by
    simp only [acode] at h
    split at h
    case h_2 => cases h
    rename_i l i σ1 hn
    cases hc : callf O (opd e f) [.yld l i] σ1 with
    | none => rw [hc] at h; cases h
    | some y =>
      rw [hc] at h
      exact (hangs_callf hc).map fun O' k => by simp only [acode, hn, k]; exact h

theorem hangs_dcallR {fv : D} {args : List D} {th : Option D} {σ : Stack} {r : R} (h : dcallR O fv args th σ = some r) : Hangs O (fun O' => dcallR O' fv args th σ) r := by
  cases fv <;> simp only [dcallR, reduceCtorEq] at h
  exact (Hangs.ask h).map fun O' h' => by simp only [dcallR, h']

theorem hangs_dtail {res : List Res} {σ : Stack} {fv : D} {args : List D} {y : Exit × Env × Stack} {r : R} (h : dtail O res σ fv args (some y) = some r) : Hangs O (fun O' => dtail O' res σ fv args (some y)) r := by
  obtain ⟨x, e, σ1⟩ := y
  have one : ∀ th, dleave res σ e (dcallR O fv args th σ1) = some r → Hangs O (fun O' => dleave res σ e (dcallR O' fv args th σ1)) r := by
    intro th h
    cases hc : dcallR O fv args th σ1 with
    | none => rw [hc] at h; cases h
    | some rr => exact (hangs_dcallR hc).map fun O' k => by rw [k, ← hc]; exact h
  cases x with
  | exit id => simp [dtail] at h
  | normal => exact one none h
  | ret => exact one none h
  | thr d => exact one (some d) h

theorem hangs_dbody {fn : Fn} {σ : Stack} {y : Cmd × Opd × List Opd × Cmd} {e0 : Env} {σ0 : Stack} {r : R} (h : dbody O fn σ (some y) e0 σ0 = some r) : Hangs O (fun O' => dbody O' fn σ (some y) e0 σ0) r := by
  obtain ⟨a, f, args, q⟩ := y
  simp only [dbody] at h
  split at h
  case h_2 => cases h
  rename_i e σ1 hA
  cases hq : acode O q e σ1 with
  | none => rw [hq] at h; simp [dtail] at h
  | some z =>
    rw [hq] at h
    exact ((hangs_acode hA).andThen (hangs_acode hq) fun O' k1 k2 => (show (fun O' => (acode O' a e0 σ0, acode O' q e σ1) |> some) O' = some (some (.normal, e, σ1), some z) by simp [k1, k2])).andThen (hangs_dtail h) fun O' k1 k2 => by
      simp only [Option.some.injEq, Prod.mk.injEq] at k1
      simp only [dbody, k1.1, k1.2, k2]

theorem split_none0 : ∀ {c A : Cmd} {r : Opd × List Opd × Cmd} {e e1 : Env} {σ σ1 : Stack}, splitT c = some (A, r) → acode O A e σ = some (.normal, e1, σ1) → acode O c e σ = none
  | .dfr f xs q, A, r, e, e1, σ, σ1, h, ha => rfl
  | .seq a b, A, r, e, e1, σ, σ1, h, ha => by
    simp only [splitT, Option.map_eq_some_iff] at h
    obtain ⟨⟨A', r'⟩, h1, h2⟩ := h
    cases h2
    simp only [acode, Option.bind_eq_some_iff, Prod.exists] at ha
    obtain ⟨x2, e2, σ2, h3, h4⟩ := ha
    cases x2 with
    | normal => simp only [acode, h3, Option.bind_some]; exact split_none0 h1 h4
    | _ => simp at h4
  | .nop, _, _, _, _, _, _, h, _ | .frz _, _, _, _, _, _, _, h, _ | .reg .., _, _, _, _, _, _, h, _ | .ite .., _, _, _, _, _, _, h, _ | .blk .., _, _, _, _, _, _, h, _ | .loop .., _, _, _, _, _, _, h, _
  | .rngf .., _, _, _, _, _, _, h, _ | .mloop .., _, _, _, _, _, _, h, _ | .treg .., _, _, _, _, _, _, h, _ | .exit _, _, _, _, _, _, _, h, _ | .ret, _, _, _, _, _, _, h, _ => by simp [splitT] at h

theorem split_none {c : Cmd} {y : Cmd × Opd × List Opd × Cmd} {fn : Fn} {σ : Stack} {e0 : Env} {σ0 : Stack} {r : R} (hs : splitT c = some y) (h : dbody O fn σ (some y) e0 σ0 = some r) : acode O c e0 σ0 = none := by
  obtain ⟨a, f, args, q⟩ := y
  simp only [dbody] at h
  split at h
  case h_2 => cases h
  rename_i e σ1 hA
  exact split_none0 hs hA

theorem hangs_mend {l i b : Nat} {rest : Cmd} {y : Option (Exit × Env × Stack)} {r : R} (h : mend O l i b rest y = some r) : Hangs O (fun O' => mend O' l i b rest y) r := by
  cases y with
  | none => simp [mend] at h
  | some y =>
  obtain ⟨x, e, σ1⟩ := y
  cases x with
  | normal => simp [mend] at h
  | thr d => simp [mend] at h
  | ret => exact .of fun O' => h
  | exit j =>
    simp only [mend] at h
    by_cases hj : j = b
    · rw [if_pos hj] at h
      simp only [Option.map_eq_some_iff] at h
      obtain ⟨z, h1, rfl⟩ := h
      exact (hangs_acode h1).map fun O' k => by simp only [mend, if_pos hj, k, Option.map_some]
    · rw [if_neg hj] at h
      exact .of fun O' => by simp only [mend, if_neg hj]; exact h

theorem hangs_stepQ {T : Tbl} : ∀ {q : Q} {r : R}, stepQ T O q = some r → Hangs O (fun O' => stepQ T O' q) r
  | .call kp f args σ, r, h => by
    simp only [stepQ] at h
    cases hT : T f with
    | none =>
      rw [hT] at h
      dsimp only at h
      exact .of fun O' => by simp only [stepQ, hT]; exact h
    | some fn =>
    rw [hT] at h
    dsimp only at h
    split at h
    case isFalse => cases h
    rename_i hl
    cases hc : acode O fn.body (mkEnv 0 args) (if kp then σ else [] :: σ) with
    | none =>
      rw [hc] at h
      dsimp only at h
      cases kp with
      | true => simp at h
      | false =>
        simp only [Bool.false_eq_true, if_false] at h
        cases hsp : splitT fn.body with
        | none => rw [hsp] at h; simp [dbody] at h
        | some y =>
          rw [hsp] at h
          refine (hangs_dbody h).map fun O' k => ?_
          have hn : acode O' fn.body (mkEnv 0 args) ([] :: σ) = none := split_none hsp k
          simp only [stepQ, hT, if_pos hl, Bool.false_eq_true, if_false, hn, hsp, k]
    | some y =>
      rw [hc] at h
      obtain ⟨yx, ye, yσ⟩ := y
      exact (hangs_acode hc).map fun O' k => by
        simp only [stepQ, hT, if_pos hl, k]
        cases yx <;> exact h
  | .loop live seg c e σ, r, h => by
    simp only [stepQ] at h
    cases hc : acode O c (restrict live e) (if seg then [] :: σ else σ) with
    | none => rw [hc] at h; cases h
    | some y =>
      obtain ⟨x, e1, σ1⟩ := y
      rw [hc] at h
      dsimp only at h
      cases x with
      | normal =>
        dsimp only at h
        exact (hangs_acode hc).andThen (Hangs.ask h) fun O' k1 k2 => by simp only [stepQ, k1]; exact k2
      | exit id => exact (hangs_acode hc).map fun O' k1 => by simp only [stepQ, k1]; exact h
      | ret => exact (hangs_acode hc).map fun O' k1 => by simp only [stepQ, k1]; exact h
      | thr d => exact (hangs_acode hc).map fun O' k1 => by simp only [stepQ, k1]; exact h
  | .round l i args σ, r, h => by
    simp only [stepQ] at h
    cases hb : blk? σ l i with
    | none => rw [hb] at h; cases h
    | some bl =>
    rw [hb] at h
    cases bl with
    | cells => cases h
    | dead => cases h
    | loop lp =>
    dsimp only at h
    split at h
    case isFalse => cases h
    rename_i hl
    cases hc : acode O lp.asg (putAll lp.params args lp.env) ([] :: σ) with
    | none => rw [hc] at h; cases h
    | some y =>
    obtain ⟨x, e1, σ1⟩ := y
    rw [hc] at h
    cases x with
    | exit id => cases h
    | ret => cases h
    | thr d => cases h
    | normal =>
    dsimp only at h
    cases hb1 : blk? σ1 l i with
    | none => rw [hb1] at h; cases h
    | some bl1 =>
    rw [hb1] at h
    cases bl1 with
    | cells => cases h
    | dead => cases h
    | loop lp1 =>
    dsimp only at h
    split at h
    case isFalse => cases h
    rename_i hs
    cases hd : acode O lp.body e1 (setBlk σ1 l i (.loop { lp1 with state := 1 })) with
    | none => rw [hd] at h; cases h
    | some z =>
    rw [hd] at h
    exact (hangs_acode hc).andThen (hangs_acode hd) fun O' k1 k2 => by simp only [stepQ, hb, if_pos hl, k1, hb1, if_pos hs, k2]; exact h
  | .dcall f args th σ, r, h => by
    simp only [stepQ] at h
    cases hT : T f with
    | none => rw [hT] at h; cases h
    | some fn =>
    rw [hT] at h
    dsimp only at h
    split at h
    case isFalse => cases h
    rename_i hl
    cases hr : afterRcv th args fn.body with
    | none => rw [hr] at h; cases h
    | some y =>
    obtain ⟨e0, q⟩ := y
    rw [hr] at h
    dsimp only at h
    cases hc : acode O q e0 ([] :: σ) with
    | none => rw [hc] at h; cases h
    | some z =>
      rw [hc] at h
      exact (hangs_acode hc).map fun O' k => by simp only [stepQ, hT, if_pos hl, hr, k]; exact h
  | .mloop live it nx ok b c rest e σ, r, h => by
    simp only [stepQ] at h
    cases hop : opd (restrict live e) it <;> rw [hop] at h <;> try (cases h; done)
    rename_i l i
    dsimp only at h
    split at h
    · rename_i m n js hit
      cases hc : acode O c ((ok, .bool false) :: (nx, .undef) :: restrict live e) σ with
      | none => rw [hc] at h; simp [mend] at h
      | some y =>
        rw [hc] at h
        exact (hangs_acode hc).andThen (hangs_mend h) fun O' k k2 => by simp only [stepQ, hop, hit, k, k2]
    · rename_i m n js us hne hit
      have one : ∀ u, mnext O live it l i nx ok b c rest (acode O c ((ok, .bool true) :: (nx, .undef) :: restrict live e) (setBlk σ l i (.cells 1 (m :: .int .i64 (n : Nat) :: .int .i64 (u : Nat) :: js)))) = some r →
          Hangs O (fun O' => mnext O' live it l i nx ok b c rest (acode O' c ((ok, .bool true) :: (nx, .undef) :: restrict live e) (setBlk σ l i (.cells 1 (m :: .int .i64 (n : Nat) :: .int .i64 (u : Nat) :: js))))) r := by
        intro u hu
        cases hc : acode O c ((ok, .bool true) :: (nx, .undef) :: restrict live e) (setBlk σ l i (.cells 1 (m :: .int .i64 (n : Nat) :: .int .i64 (u : Nat) :: js))) with
        | none => rw [hc] at hu; simp [mnext, mend] at hu
        | some y =>
          obtain ⟨x, e1, σ1⟩ := y
          rw [hc] at hu
          cases x with
          | normal => exact (hangs_acode hc).andThen (Hangs.ask hu) fun O' k1 k2 => by simp only [k1]; exact k2
          | exit id => exact (hangs_acode hc).andThen (hangs_mend (b := b) (rest := rest) (y := some (.exit id, e1, σ1)) hu) fun O' k1 k2 => by simp only [k1]; exact k2
          | ret => exact (hangs_acode hc).andThen (hangs_mend (b := b) (rest := rest) (y := some (.ret, e1, σ1)) hu) fun O' k1 k2 => by simp only [k1]; exact k2
          | thr d => simp [mnext, mend] at hu
      have all : ∀ vs : List Nat, (∀ v ∈ vs, mnext O live it l i nx ok b c rest (acode O c ((ok, .bool true) :: (nx, .undef) :: restrict live e) (setBlk σ l i (.cells 1 (m :: .int .i64 (n : Nat) :: .int .i64 (v : Nat) :: js)))) = some r) →
          ∃ L : List (Q × R), (∀ p ∈ L, O p.1 = some p.2) ∧ ∀ O' : Oracle, (∀ p ∈ L, O' p.1 = some p.2) → ∀ v ∈ vs, mnext O' live it l i nx ok b c rest (acode O' c ((ok, .bool true) :: (nx, .undef) :: restrict live e) (setBlk σ l i (.cells 1 (m :: .int .i64 (n : Nat) :: .int .i64 (v : Nat) :: js)))) = some r := by
        intro vs
        induction vs with
        | nil => intro _; exact ⟨[], by simp, by simp⟩
        | cons v vs ih =>
          intro hv
          obtain ⟨L1, h1, h2⟩ := one v (hv v (by simp))
          obtain ⟨L2, h3, h4⟩ := ih fun v' hv' => hv v' (by simp [hv'])
          refine ⟨L1 ++ L2, fun p hp => ?_, fun O' h' v' hv' => ?_⟩
          · rcases List.mem_append.1 hp with hp | hp
            · exact h1 p hp
            · exact h3 p hp
          · rcases List.mem_cons.1 hv' with rfl | hv'
            · exact h2 O' fun p hp => h' p (by simp [hp])
            · exact h4 O' (fun p hp => h' p (by simp [hp])) v' hv'
      obtain ⟨L, h1, h2⟩ := all us (agree_all h)
      refine ⟨L, h1, fun O' h' => ?_⟩
      have h3 := h2 O' h'
      simp only [stepQ, hop, hit]
      cases us with
      | nil => first | exact (hne rfl).elim | exact (hne _ rfl).elim | exact (hne _ _ _ rfl).elim | exact hne.elim
      | cons v vs => exact all_agree (by simp) h3
    · cases h

theorem stepQ_mono {T : Tbl} {O O' : Oracle} (h : ∀ q r, O q = some r → O' q = some r) {q : Q} {r : R} (hq : stepQ T O q = some r) : stepQ T O' q = some r := by
  obtain ⟨L, h1, h2⟩ := hangs_stepQ hq
  exact h2 O' fun p hp => h _ _ (h1 p hp)

theorem it_mono {T : Tbl} : ∀ {n m : Nat}, n ≤ m → ∀ {q : Q} {r : R}, it T n q = some r → it T m q = some r
  | 0, m, _, q, r, h => by simp [it] at h
  | n + 1, 0, hnm, q, r, h => by omega
  | n + 1, m + 1, hnm, q, r, h => stepQ_mono (fun _ _ hh => it_mono (Nat.le_of_succ_le_succ hnm) hh) h

theorem lim_iff {T : Tbl} {q : Q} {r : R} : lim T q = some r ↔ ∃ n, it T n q = some r := by
  constructor
  · intro h
    unfold lim at h
    split at h
    · rename_i hex
      cases h
      exact ⟨_, hex.choose_spec.choose_spec⟩
    · cases h
  · rintro ⟨n, h⟩
    have hex : ∃ n r, it T n q = some r := ⟨n, r, h⟩
    unfold lim
    rw [dif_pos hex]
    have h1 := it_mono (Nat.le_max_left n hex.choose) h
    have h2 := it_mono (Nat.le_max_right n hex.choose) hex.choose_spec.choose_spec
    rw [h1] at h2
    cases h2
    rfl

theorem lim_all {T : Tbl} : ∀ {L : List (Q × R)}, (∀ p ∈ L, lim T p.1 = some p.2) → ∃ n, ∀ p ∈ L, it T n p.1 = some p.2
  | [], _ => ⟨0, by simp⟩
  | p :: L, h => by
    obtain ⟨n, hn⟩ := lim_all (L := L) fun q hq => h q (by simp [hq])
    obtain ⟨m, hm⟩ := lim_iff.1 (h p (by simp))
    refine ⟨max n m, fun q hq => ?_⟩
    rcases List.mem_cons.1 hq with rfl | hq
    · exact it_mono (Nat.le_max_right n m) hm
    · exact it_mono (Nat.le_max_left n m) (hn q hq)

theorem lim_step {T : Tbl} {q : Q} {r : R} (h : stepQ T (lim T) q = some r) : lim T q = some r := by
  obtain ⟨L, h1, h2⟩ := hangs_stepQ h
  obtain ⟨n, hn⟩ := lim_all h1
  exact lim_iff.2 ⟨n + 1, h2 (it T n) hn⟩

end Go.Abs

/-
  How to reckon what a call answers: step by step, by rewriting.
-/
set_option linter.unusedVariables false
set_option linter.unusedSimpArgs false
namespace Go.Abs
open Go

variable {T : Tbl} {O : Oracle}

theorem by_rfl.{u} {α : Sort u} {a b : α} (h : a = b) : a = b := h

inductive Mark.{u} {α : Sort u} (a : α) : Type
  | mk

def WO (O : Oracle) (ops : List Op) (e : Env) (σ : Stack) (Q : Env → Stack → Prop) (_m : Mark Q := .mk) : Prop := ∃ e' σ', aops O ops e σ = some (e', σ') ∧ Q e' σ'
def WC (O : Oracle) (c : Cmd) (e : Env) (σ : Stack) (Q : Exit → Env → Stack → Prop) (_m : Mark c := .mk) (_m' : Mark Q := .mk) : Prop := ∃ x e' σ', acode O c e σ = some (x, e', σ') ∧ Q x e' σ'
def WV (o : Option (D × Stack)) (Q : D → Stack → Prop) (_m : Mark Q := .mk) : Prop := ∃ d σ', o = some (d, σ') ∧ Q d σ'
def WL (T : Tbl) (live : List Nat) (seg : Bool) (c : Cmd) (e : Env) (σ : Stack) (Q : Exit → Env → Stack → Prop) (_m : Mark c := .mk) (_m' : Mark Q := .mk) : Prop := ∃ x e' σ', lim T (.loop live seg c e σ) = some (.ctl x e' σ') ∧ Q x e' σ'

theorem WO.mono {ops : List Op} {e : Env} {σ : Stack} {Q Q' : Env → Stack → Prop} (h : WO O ops e σ Q) (hq : ∀ e σ, Q e σ → Q' e σ) : WO O ops e σ Q' :=
  let ⟨e', σ', h1, h2⟩ := h; ⟨e', σ', h1, hq _ _ h2⟩
theorem WC.mono {c : Cmd} {e : Env} {σ : Stack} {Q Q' : Exit → Env → Stack → Prop} (h : WC O c e σ Q) (hq : ∀ x e σ, Q x e σ → Q' x e σ) : WC O c e σ Q' :=
  let ⟨x, e', σ', h1, h2⟩ := h; ⟨x, e', σ', h1, hq _ _ _ h2⟩
theorem WL.mono {live : List Nat} {seg : Bool} {c : Cmd} {e : Env} {σ : Stack} {Q Q' : Exit → Env → Stack → Prop} (h : WL T live seg c e σ Q) (hq : ∀ x e σ, Q x e σ → Q' x e σ) : WL T live seg c e σ Q' :=
  let ⟨x, e', σ', h1, h2⟩ := h; ⟨x, e', σ', h1, hq _ _ _ h2⟩


def WD {α : Type} (o : Option α) (Q : α → Prop) (_m : Mark Q := .mk) : Prop := ∃ d, o = some d ∧ Q d
@[simp, simp ↓] theorem WD_some {α : Type} {d : α} {Q : α → Prop} : WD (some d) Q = Q d := by
  simp only [WD, Option.some.injEq, eq_iff_iff]
  exact ⟨fun ⟨_, h, h'⟩ => by rw [h]; exact h', fun h => ⟨_, rfl, h⟩⟩
@[simp, simp ↓] theorem WD_none {α : Type} {Q : α → Prop} : WD none Q = False := by simp [WD]
def boolD : D → Option Bool
  | .bool b => some b
  | _ => none
@[simp] theorem boolD_bool {b : Bool} : boolD (.bool b) = some b := by_rfl rfl
@[simp] theorem bit_bool {b : Bool} : (D.bool b).bit = some (some b) := by_rfl rfl
@[simp] theorem bit_tup : (D.tup []).bit = some none := by_rfl rfl
def cvtD (k : IntKind) : D → Option D
  | .int _ m => some (.int k (k.wrap m))
  | _ => none
@[simp] theorem cvtD_int {k k' : IntKind} {m : Int} : cvtD k (.int k' m) = some (.int k (k.wrap m)) := by_rfl rfl

@[simp, simp ↓] theorem WV_some {d : D} {σ : Stack} {Q : D → Stack → Prop} : WV (some (d, σ)) Q = Q d σ := by
  simp only [WV, Option.some.injEq, Prod.mk.injEq, eq_iff_iff]
  constructor
  · rintro ⟨_, _, ⟨rfl, rfl⟩, h⟩; exact h
  · exact fun h => ⟨_, _, ⟨rfl, rfl⟩, h⟩
@[simp, simp ↓] theorem WV_none {Q : D → Stack → Prop} : WV none Q = False := by simp [WV]

@[simp, simp ↓] theorem WO_nil {e : Env} {σ : Stack} {Q : Env → Stack → Prop} : WO O [] e σ Q = Q e σ := by
  simp only [WO, aops, Option.some.injEq, Prod.mk.injEq, eq_iff_iff]
  constructor
  · rintro ⟨_, _, ⟨rfl, rfl⟩, h⟩; exact h
  · exact fun h => ⟨_, _, ⟨rfl, rfl⟩, h⟩

def grdIs (d : D) (w : Bool) : Option Bool :=
  match d with
  | .bool b => some (b == w)
  | _ => none

@[simp, simp ↓] theorem WO_grd {d : Option Nat} {g : Nat} {w n : Bool} {k : K} {r : List Op} {e : Env} {σ : Stack} {Q : Env → Stack → Prop} :
    WO O (⟨d, some (g, w), n, k⟩ :: r) e σ Q = WD (get e g).bit fun b => if b = some w then WO O (⟨d, none, n, k⟩ :: r) e σ Q else WO O r (put d (.tup []) e) σ Q := by
  cases h : (get e g).bit <;> simp only [WO, aops, h, reduceCtorEq, false_and, exists_false, WD_none, WD_some]
  rename_i b
  by_cases hb : b = some w
  · simp only [hb, if_true]
    rfl
  · simp only [if_neg hb]

theorem WO_sop {d : Option Nat} {n : Bool} {k : K} {r : List Op} {e : Env} {σ : Stack} {Q : Env → Stack → Prop} (h : aop O ⟨d, none, n, k⟩ e σ = (sop e σ k).map fun x => (put d x.1 e, x.2)) :
    WO O (⟨d, none, n, k⟩ :: r) e σ Q = WV (sop e σ k) fun v σ' => WO O r (put d v e) σ' Q := by
  simp only [WO, aops, h, WV, eq_iff_iff]
  constructor
  · rintro ⟨e', σ', h1, h2⟩
    cases hs : sop e σ k with
    | none => simp [hs] at h1
    | some y => simp [hs] at h1; exact ⟨y.1, y.2, rfl, e', σ', h1, h2⟩
  · rintro ⟨v, σ1, h1, e', σ', h2, h3⟩
    exact ⟨e', σ', by simp [h1, h2], h3⟩


theorem WV_of_D {o : Option (D × Stack)} {o' : Option D} {σ : Stack} {Q : D → Stack → Prop} (h : o = o'.map (·, σ)) : WV o Q = WD o' fun v => Q v σ := by
  subst h
  cases o' <;> simp

def lenD : D → Option D
  | .nils => some (.int .i64 0)
  | .lst n _ => some (.int .i64 n)
  | .sl _ _ _ _ n _ => some (.int .i64 n)
  | _ => none
@[simp] theorem lenD_nils : lenD .nils = some (.int .i64 0) := by_rfl rfl
@[simp] theorem lenD_lst {n : Nat} {cs : List D} : lenD (.lst n cs) = some (.int .i64 n) := by_rfl rfl
@[simp] theorem lenD_sl {l i v o n w : Nat} : lenD (.sl l i v o n w) = some (.int .i64 n) := by_rfl rfl

def ldD (ag : Bool) (sz : Nat) : Option (List D) → Option D
  | some cs =>
    if sz ≤ cs.length then
      if ag then some (.agg (cs.take sz)) else
      match cs with
      | d :: _ => some d
      | [] => none
    else none
  | none => none
@[simp] theorem ldD_ag {sz : Nat} {cs : List D} : ldD true sz (some cs) = if sz ≤ cs.length then some (.agg (cs.take sz)) else none := by_rfl rfl
@[simp] theorem ldD_one {d : D} {cs : List D} : ldD false 1 (some (d :: cs)) = some d := by simp [ldD]
@[simp] theorem rdD_cref {σ : Stack} {cs : List D} : rdD σ (.cref cs) = some cs := by_rfl rfl
@[simp] theorem rdD_ref {σ : Stack} {l i v off : Nat} : rdD σ (.ref l i v off) = (cells? σ l i v).map (·.drop off) := by_rfl rfl

def ldvD (e : Env) (v : Nat) (ag : Bool) (sz a : Nat) : Option D := ldD ag sz ((inVar e v a).map fun x => x.2.1.drop x.2.2)

def crefD : D → Option (List D)
  | .cref cs => some cs
  | _ => none
@[simp] theorem crefD_cref {cs : List D} : crefD (.cref cs) = some cs := by_rfl rfl
@[simp] theorem isnD_nilp : isnD true .nilp = some true := by_rfl rfl
@[simp] theorem isnD_cref {cs : List D} : isnD true (.cref cs) = some false := by_rfl rfl
@[simp] theorem isnD_ref {l i v off : Nat} : isnD true (.ref l i v off) = some false := by_rfl rfl
@[simp] theorem isnD_nils : isnD false .nils = some true := by_rfl rfl
@[simp] theorem isnD_lst {n : Nat} {cs : List D} : isnD false (.lst n cs) = if n = 0 then none else some false := by_rfl rfl
@[simp] theorem isnD_sl {l i v off n w : Nat} : isnD false (.sl l i v off n w) = if n = 0 then none else some false := by_rfl rfl
def nckD : D → Option D
  | .cref cs => some (.cref cs)
  | .ref l i v off => some (.ref l i v off)
  | _ => none
@[simp] theorem nckD_cref {cs : List D} : nckD (.cref cs) = some (.cref cs) := by_rfl rfl
@[simp] theorem nckD_ref {l i v off : Nat} : nckD (.ref l i v off) = some (.ref l i v off) := by_rfl rfl
def unD : UnOp → D → Option D
  | .not, .bool b => some (.bool !b)
  | .neg, .int k n => some (.int k (k.wrap (0 - n)))
  | .xor, .int k n => some (.int k (k.wrap ((BitVec.ofInt k.bits (if k.signed then -1 else k.max) ^^^ BitVec.ofInt k.bits n).toNat : Int)))
  | _, _ => none
theorem unD_xor8 {n : Nat} (h : n < 256) : unD .xor (.int .u8 n) = some (.int .u8 ((255 - n : Nat) : Int)) := by
  have key : ∀ m : Fin 256, IntKind.u8.wrap ((BitVec.ofInt 8 255 ^^^ BitVec.ofInt 8 (m.1 : Int)).toNat : Int) = ((255 - m.1 : Nat) : Int) := by decide +kernel
  have := key ⟨n, h⟩
  simp only [unD]
  exact congrArg (fun z => some (D.int .u8 z)) this
@[simp] theorem unD_not {b : Bool} : unD .not (.bool b) = some (.bool !b) := by_rfl rfl
@[simp] theorem unD_neg {k : IntKind} {n : Int} : unD .neg (.int k n) = some (.int k (k.wrap (0 - n))) := by_rfl rfl

def fadrV (n off : Nat) : D → Option D
  | .cref cs => some (.cref (cs.drop off))
  | .ref l i v o => some (.ref l i v (o + off))
  | .own s _ => some (.vr n s off)
  | .vr v s o => some (.vr v s (o + off))
  | _ => none
@[simp] theorem fadrV_cref {n off : Nat} {cs : List D} : fadrV n off (.cref cs) = some (.cref (cs.drop off)) := by_rfl rfl
@[simp] theorem fadrV_ref {n off l i v o : Nat} : fadrV n off (.ref l i v o) = some (.ref l i v (o + off)) := by_rfl rfl
@[simp] theorem fadrV_own {n off s : Nat} {cs : List D} : fadrV n off (.own s cs) = some (.vr n s off) := by_rfl rfl
@[simp] theorem fadrV_vr {n off v s o : Nat} : fadrV n off (.vr v s o) = some (.vr v s (o + off)) := by_rfl rfl

def fldD (ag : Bool) (off sz : Nat) : D → Option D
  | .agg cs =>
    if off + sz ≤ cs.length then
      if ag then some (.agg ((cs.drop off).take sz)) else cs[off]?
    else none
  | _ => none
@[simp] theorem fldD_agg {ag : Bool} {off sz : Nat} {cs : List D} : fldD ag off sz (.agg cs) = if off + sz ≤ cs.length then (if ag then some (.agg ((cs.drop off).take sz)) else cs[off]?) else none := by_rfl rfl

def idxAV (m len w : Nat) (x i : D) : Option D :=
  match intD i with
  | some n =>
    if 0 ≤ n ∧ n < len then
      match x with
      | .cref cs => some (.cref ((cs.drop (n.toNat * w)).take w))
      | .ref l j v off => some (.ref l j v (off + n.toNat * w))
      | .own s _ => some (.vr m s (n.toNat * w))
      | .vr v s o => some (.vr v s (o + n.toNat * w))
      | _ => none
    else none
  | none => none
@[simp] theorem idxAV_cref {m len w : Nat} {cs : List D} {k : IntKind} {n : Int} : idxAV m len w (.cref cs) (.int k n) = if 0 ≤ n ∧ n < len then some (.cref ((cs.drop (n.toNat * w)).take w)) else none := by_rfl rfl
@[simp] theorem idxAV_ref {m len w l j v off : Nat} {k : IntKind} {n : Int} : idxAV m len w (.ref l j v off) (.int k n) = if 0 ≤ n ∧ n < len then some (.ref l j v (off + n.toNat * w)) else none := by_rfl rfl
@[simp] theorem idxAV_own {m len w s : Nat} {cs : List D} {k : IntKind} {n : Int} : idxAV m len w (.own s cs) (.int k n) = if 0 ≤ n ∧ n < len then some (.vr m s (n.toNat * w)) else none := by_rfl rfl
@[simp] theorem idxAV_vr {m len w v s o : Nat} {k : IntKind} {n : Int} : idxAV m len w (.vr v s o) (.int k n) = if 0 ≤ n ∧ n < len then some (.vr v s (o + n.toNat * w)) else none := by_rfl rfl

def idxSV (w : Nat) (x i : D) : Option D :=
  match x, intD i with
  | .lst m cs, some n => if 0 ≤ n ∧ n < m then some (.cref ((cs.drop (n.toNat * w)).take w)) else none
  | .sl l j v off m w', some n => if 0 ≤ n ∧ n < m ∧ w' = w then some (.ref l j v (off + n.toNat * w)) else none
  | _, _ => none
@[simp] theorem idxSV_lst {w m : Nat} {cs : List D} {k : IntKind} {n : Int} : idxSV w (.lst m cs) (.int k n) = if 0 ≤ n ∧ n < m then some (.cref ((cs.drop (n.toNat * w)).take w)) else none := by_rfl rfl
@[simp] theorem idxSV_sl {w l j v off m w' : Nat} {k : IntKind} {n : Int} : idxSV w (.sl l j v off m w') (.int k n) = if 0 ≤ n ∧ n < m ∧ w' = w then some (.ref l j v (off + n.toNat * w)) else none := by_rfl rfl

def idxVD (ag : Bool) (len w : Nat) (x i : D) : Option D :=
  match x, intD i with
  | .agg cs, some n =>
    if 0 ≤ n ∧ n < len ∧ (n.toNat + 1) * w ≤ cs.length then
      if ag then some (.agg ((cs.drop (n.toNat * w)).take w)) else cs[n.toNat * w]?
    else none
  | _, _ => none
@[simp] theorem idxVD_agg {ag : Bool} {len w : Nat} {cs : List D} {k : IntKind} {n : Int} : idxVD ag len w (.agg cs) (.int k n) = if 0 ≤ n ∧ n < len ∧ (n.toNat + 1) * w ≤ cs.length then (if ag then some (.agg ((cs.drop (n.toNat * w)).take w)) else cs[n.toNat * w]?) else none := by_rfl rfl

def mnD (x y : D) : Option D :=
  match x, y with
  | .int k a, .int _ b => some (.int k (min a b))
  | _, _ => none
@[simp] theorem mnD_int {k k' : IntKind} {a b : Int} : mnD (.int k a) (.int k' b) = some (.int k (min a b)) := by_rfl rfl
def mxD (x y : D) : Option D :=
  match x, y with
  | .int k a, .int _ b => some (.int k (max a b))
  | _, _ => none
@[simp] theorem mxD_int {k k' : IntKind} {a b : Int} : mxD (.int k a) (.int k' b) = some (.int k (max a b)) := by_rfl rfl
def extD (x : D) (i : Nat) : Option D :=
  match x with
  | .tup ds => ds[i]?
  | _ => none
@[simp] theorem extD_tup {ds : List D} {i : Nat} : extD (.tup ds) i = ds[i]? := by_rfl rfl
def eqvD (ag : Bool) (ks : List (Option IntKind)) (neg : Bool) (x y : D) : Option D :=
  match x.row ag, y.row ag with
  | some p, some q => (eqK ks p q).map fun b => .bool (if neg then !b else b)
  | _, _ => none
@[simp] theorem eqvD_ag {ks : List (Option IntKind)} {neg : Bool} {p q : List D} : eqvD true ks neg (.agg p) (.agg q) = (eqK ks p q).map fun b => .bool (if neg then !b else b) := by_rfl rfl
@[simp] theorem eqvD_int {ks : List (Option IntKind)} {neg : Bool} {k k' : IntKind} {a b : Int} : eqvD false ks neg (.int k a) (.int k' b) = (eqK ks [.int k a] [.int k' b]).map fun b => .bool (if neg then !b else b) := by_rfl rfl
@[simp] theorem eqvD_bool {ks : List (Option IntKind)} {neg : Bool} {a b : Bool} : eqvD false ks neg (.bool a) (.bool b) = (eqK ks [.bool a] [.bool b]).map fun b => .bool (if neg then !b else b) := by_rfl rfl
@[simp] theorem reqK_nil : eqK [] [] [] = some true := by_rfl rfl
@[simp] theorem reqK_int {k k1 k2 : IntKind} {ks : List (Option IntKind)} {a b : Int} {x y : List D} : eqK (some k :: ks) (.int k1 a :: x) (.int k2 b :: y) = if k1 = k ∧ k2 = k then (eqK ks x y).map (a == b && ·) else none := by_rfl rfl
@[simp] theorem reqK_bool {ks : List (Option IntKind)} {a b : Bool} {x y : List D} : eqK (none :: ks) (.bool a :: x) (.bool b :: y) = (eqK ks x y).map (a == b && ·) := by_rfl rfl

def slcD (w : Nat) (x : D) (e : Env) (lo hi mx : Option Opd) : Option D :=
  match x with
  | .lst n cs => (bounds n e lo hi mx).map fun b => .lst (b.2 - b.1) ((cs.drop (b.1 * w)).take ((b.2 - b.1) * w))
  | .sl l i v off n w' => if w' = w then (bounds n e lo hi mx).map fun b => .sl l i v (off + b.1 * w) (b.2 - b.1) w else none
  | .nils => (bounds 0 e lo hi mx).map fun _ => .nils
  | _ => none
@[simp] theorem slcD_lst {w n : Nat} {cs : List D} {e : Env} {lo hi mx : Option Opd} : slcD w (.lst n cs) e lo hi mx = (bounds n e lo hi mx).map fun b => .lst (b.2 - b.1) ((cs.drop (b.1 * w)).take ((b.2 - b.1) * w)) := by_rfl rfl
@[simp] theorem slcD_sl {w l i v off n w' : Nat} {e : Env} {lo hi mx : Option Opd} : slcD w (.sl l i v off n w') e lo hi mx = if w' = w then (bounds n e lo hi mx).map fun b => .sl l i v (off + b.1 * w) (b.2 - b.1) w else none := by_rfl rfl
@[simp] theorem slcD_nils {w : Nat} {e : Env} {lo hi mx : Option Opd} : slcD w .nils e lo hi mx = (bounds 0 e lo hi mx).map fun _ => .nils := by_rfl rfl

section bins
variable {k : IntKind} {a b : Int}
@[simp] theorem binD_add : binD .add (.int k a) (.int k b) = some (.int k (k.wrap (a + b))) := by simp [binD]
@[simp] theorem binD_sub : binD .sub (.int k a) (.int k b) = some (.int k (k.wrap (a - b))) := by simp [binD]
@[simp] theorem binD_mul : binD .mul (.int k a) (.int k b) = some (.int k (k.wrap (a * b))) := by simp [binD]
@[simp] theorem binD_quo : binD .quo (.int k a) (.int k b) = if b ≠ 0 then some (.int k (k.wrap (a.tdiv b))) else none := by simp [binD]
@[simp] theorem binD_rem : binD .rem (.int k a) (.int k b) = if b ≠ 0 then some (.int k (a.tmod b)) else none := by simp [binD]
@[simp] theorem binD_shl {k' : IntKind} : binD .shl (.int k a) (.int k' b) = if b < 0 then none else some (.int k (k.wrap (a * 2 ^ (min b.toNat k.bits)))) := by_rfl rfl
@[simp] theorem binD_shr {k' : IntKind} : binD .shr (.int k a) (.int k' b) = if b < 0 then none else some (.int k (a.fdiv (2 ^ (min b.toNat k.bits)))) := by_rfl rfl
@[simp] theorem binD_and : binD .and (.int k a) (.int k b) = some (.int k (k.wrap ((BitVec.ofInt k.bits a &&& BitVec.ofInt k.bits b).toNat : Int))) := by simp [binD]
@[simp] theorem binD_or : binD .or (.int k a) (.int k b) = some (.int k (k.wrap ((BitVec.ofInt k.bits a ||| BitVec.ofInt k.bits b).toNat : Int))) := by simp [binD]
@[simp] theorem binD_xor : binD .xor (.int k a) (.int k b) = some (.int k (k.wrap ((BitVec.ofInt k.bits a ^^^ BitVec.ofInt k.bits b).toNat : Int))) := by simp [binD]
@[simp] theorem binD_eql : binD .eql (.int k a) (.int k b) = some (.bool (a == b)) := by simp [binD]
@[simp] theorem binD_neq : binD .neq (.int k a) (.int k b) = some (.bool (a != b)) := by simp [binD]
@[simp] theorem binD_lss : binD .lss (.int k a) (.int k b) = some (.bool (decide (a < b))) := by simp [binD]
@[simp] theorem binD_leq : binD .leq (.int k a) (.int k b) = some (.bool (decide (a ≤ b))) := by simp [binD]
@[simp] theorem binD_gtr : binD .gtr (.int k a) (.int k b) = some (.bool (decide (b < a))) := by simp [binD]
@[simp] theorem binD_geq : binD .geq (.int k a) (.int k b) = some (.bool (decide (b ≤ a))) := by simp [binD]
end bins

@[simp] theorem rstrip_undef : D.strip .undef = .undef := by_rfl rfl
@[simp] theorem rstrip_bool {b : Bool} : D.strip (.bool b) = .bool b := by_rfl rfl
@[simp] theorem rstrip_int {k : IntKind} {n : Int} : D.strip (.int k n) = .int k n := by_rfl rfl
@[simp] theorem rstrip_str {s : List UInt8} : D.strip (.str s) = .str s := by_rfl rfl
@[simp] theorem rstrip_agg {cs : List D} : D.strip (.agg cs) = .agg cs := by_rfl rfl
@[simp] theorem rstrip_tup {cs : List D} : D.strip (.tup cs) = .tup cs := by_rfl rfl
@[simp] theorem rstrip_nilp : D.strip .nilp = .nilp := by_rfl rfl
@[simp] theorem rstrip_ref {l i v o : Nat} : D.strip (.ref l i v o) = .ref l i v o := by_rfl rfl
@[simp] theorem rstrip_cref {cs : List D} : D.strip (.cref cs) = .cref cs := by_rfl rfl
@[simp] theorem rstrip_nils : D.strip .nils = .nils := by_rfl rfl
@[simp] theorem rstrip_lst {n : Nat} {cs : List D} : D.strip (.lst n cs) = .lst n cs := by_rfl rfl
@[simp] theorem rstrip_sl {l i v o n w : Nat} : D.strip (.sl l i v o n w) = .sl l i v o n w := by_rfl rfl
@[simp] theorem rstrip_fn {f : Nat} {a b : List D} : D.strip (.fn f a b) = .fn f a b := by_rfl rfl
@[simp] theorem rstrip_ifc {t : Nat} {d : D} : D.strip (.ifc t d) = .ifc t d := by_rfl rfl
@[simp] theorem rstrip_nili : D.strip .nili = .nili := by_rfl rfl
@[simp] theorem rcalm_ifc {t : Nat} {d : D} : D.calm (.ifc t d) = .ifc t d := by_rfl rfl
@[simp] theorem rcalm_nili : D.calm .nili = .nili := by_rfl rfl
@[simp] theorem rcells_ifc {t : Nat} {d : D} : D.cells (.ifc t d) = some [.ifc t d] := by_rfl rfl
@[simp] theorem rcells_nili : D.cells .nili = some [.nili] := by_rfl rfl
@[simp] theorem rstrip_nilf : D.strip .nilf = .nilf := by_rfl rfl
@[simp] theorem rstrip_yld {l i : Nat} : D.strip (.yld l i) = .yld l i := by_rfl rfl
@[simp] theorem rstrip_own {s : Nat} {cs : List D} : D.strip (.own s cs) = .undef := by_rfl rfl
@[simp] theorem rstrip_emp : D.strip .emp = .undef := by_rfl rfl
@[simp] theorem rcalm_emp : D.calm .emp = .undef := by_rfl rfl
@[simp] theorem rstrip_vr {x s o : Nat} : D.strip (.vr x s o) = .undef := by_rfl rfl
@[simp] theorem rcalm_undef : D.calm .undef = .undef := by_rfl rfl
@[simp] theorem rcalm_bool {b : Bool} : D.calm (.bool b) = .bool b := by_rfl rfl
@[simp] theorem rcalm_int {k : IntKind} {n : Int} : D.calm (.int k n) = .int k n := by_rfl rfl
@[simp] theorem rcalm_str {s : List UInt8} : D.calm (.str s) = .str s := by_rfl rfl
@[simp] theorem rcalm_agg {cs : List D} : D.calm (.agg cs) = .agg cs := by_rfl rfl
@[simp] theorem rcalm_tup {cs : List D} : D.calm (.tup cs) = .tup cs := by_rfl rfl
@[simp] theorem rcalm_nilp : D.calm .nilp = .nilp := by_rfl rfl
@[simp] theorem rcalm_ref {l i v o : Nat} : D.calm (.ref l i v o) = .ref l i v o := by_rfl rfl
@[simp] theorem rcalm_cref {cs : List D} : D.calm (.cref cs) = .cref cs := by_rfl rfl
@[simp] theorem rcalm_nils : D.calm .nils = .nils := by_rfl rfl
@[simp] theorem rcalm_lst {n : Nat} {cs : List D} : D.calm (.lst n cs) = .lst n cs := by_rfl rfl
@[simp] theorem rcalm_sl {l i v o n w : Nat} : D.calm (.sl l i v o n w) = .sl l i v o n w := by_rfl rfl
@[simp] theorem rcalm_fn {f : Nat} {a b : List D} : D.calm (.fn f a b) = .fn f a b := by_rfl rfl
@[simp] theorem rcalm_nilf : D.calm .nilf = .nilf := by_rfl rfl
@[simp] theorem rcalm_yld {l i : Nat} : D.calm (.yld l i) = .yld l i := by_rfl rfl
@[simp] theorem rcalm_own {s : Nat} {cs : List D} : D.calm (.own s cs) = .own 0 cs := by_rfl rfl
@[simp] theorem rcalm_vr {x s o : Nat} : D.calm (.vr x s o) = .undef := by_rfl rfl
@[simp] theorem rcells_bool {b : Bool} : D.cells (.bool b) = some [.bool b] := by_rfl rfl
@[simp] theorem rcells_int {k : IntKind} {n : Int} : D.cells (.int k n) = some [.int k n] := by_rfl rfl
@[simp] theorem rcells_str {s : List UInt8} : D.cells (.str s) = some [.str s] := by_rfl rfl
@[simp] theorem rcells_agg {cs : List D} : D.cells (.agg cs) = some cs := by_rfl rfl
@[simp] theorem rcells_nilp : D.cells .nilp = some [.nilp] := by_rfl rfl
@[simp] theorem rcells_ref {l i v o : Nat} : D.cells (.ref l i v o) = some [.ref l i v o] := by_rfl rfl
@[simp] theorem rcells_cref {cs : List D} : D.cells (.cref cs) = some [.cref cs] := by_rfl rfl
@[simp] theorem rcells_nils : D.cells .nils = some [.nils] := by_rfl rfl
@[simp] theorem rcells_lst {n : Nat} {cs : List D} : D.cells (.lst n cs) = some [.lst n cs] := by_rfl rfl
@[simp] theorem rcells_sl {l i v o n w : Nat} : D.cells (.sl l i v o n w) = some [.sl l i v o n w] := by_rfl rfl
@[simp] theorem rcells_fn {f : Nat} {a b : List D} : D.cells (.fn f a b) = some [.fn f a b] := by_rfl rfl
@[simp] theorem rcells_nilf : D.cells .nilf = some [.nilf] := by_rfl rfl
@[simp] theorem rcells_yld {l i : Nat} : D.cells (.yld l i) = some [.yld l i] := by_rfl rfl
@[simp] theorem intD_int {k : IntKind} {n : Int} : intD (.int k n) = some n := by_rfl rfl

@[simp] theorem callv_fn {O : Oracle} {kp : Bool} {f : Nat} {first cap args : List D} {σ : Stack} : callv O kp (.fn f first cap) args σ = R.vals (O (.call kp f (first ++ args ++ cap) σ)) := by_rfl rfl
@[simp] theorem callv_yld {O : Oracle} {kp : Bool} {l i : Nat} {args : List D} {σ : Stack} : callv O kp (.yld l i) args σ = R.vals (O (.round l i args σ)) := by_rfl rfl
@[simp] theorem vals_val {d : D} {σ : Stack} : R.vals (some (.val d σ)) = some (d, σ) := by_rfl rfl

section ops
variable {d : Option Nat} {n : Bool} {r : List Op} {e : Env} {σ : Stack} {Q : Env → Stack → Prop}

@[simp, simp ↓] theorem WO_mv {x : Opd} : WO O (⟨d, none, n, .mv x⟩ :: r) e σ Q = WO O r (put d (opd e x) e) σ Q := by rw [WO_sop rfl]; simp [sop]
@[simp, simp ↓] theorem WO_nilb {w : Nat} : WO O (⟨d, none, n, .nilb w⟩ :: r) e σ Q = WV (sop e σ (.nilb w)) fun v σ' => WO O r (put d v e) σ' Q := WO_sop rfl
@[simp, simp ↓] theorem WO_alc {nb : List (Nat × Nat)} {cs : List D} : WO O (⟨d, none, n, .alc nb cs⟩ :: r) e σ Q = WV (sop e σ (.alc nb cs)) fun v σ' => WO O r (put d v e) σ' Q := WO_sop rfl
@[simp, simp ↓] theorem WO_pick {c a b : Opd} : WO O (⟨d, none, n, .pick c a b⟩ :: r) e σ Q = WD (boolD (opd e c)) fun t => WO O r (put d (if t then opd e a else opd e b) e) σ Q := by
  rw [WO_sop rfl]
  simp only [sop]
  cases opd e c <;> simp [boolD]
@[simp, simp ↓] theorem WO_boxi {x : Opd} : WO O (⟨d, none, n, .boxi x⟩ :: r) e σ Q = WD (opd e x).cells fun cs => WO O r (put d (.cref cs) e) σ Q := by
  rw [WO_sop rfl]
  simp only [sop]
  cases (opd e x).cells <;> simp
@[simp, simp ↓] theorem WO_boxm {x : Opd} : WO O (⟨d, none, n, .boxm x⟩ :: r) e σ Q = WV (sop e σ (.boxm x)) fun v σ' => WO O r (put d v e) σ' Q := WO_sop rfl
@[simp, simp ↓] theorem WO_bxn {nb : List (Nat × Nat)} {x : Opd} : WO O (⟨d, none, n, .bxn nb x⟩ :: r) e σ Q = WV (sop e σ (.bxn nb x)) fun v σ' => WO O r (put d v e) σ' Q := WO_sop rfl
@[simp, simp ↓] theorem WO_bld {z : List D} {ps : List (Nat × Nat × Opd)} : WO O (⟨d, none, n, .bld z ps⟩ :: r) e σ Q = WD (fillD e ps z) fun cs => WO O r (put d (.agg cs) e) σ Q := by
  rw [WO_sop rfl]
  simp only [sop]
  cases fillD e ps z <;> simp
@[simp, simp ↓] theorem WO_bsi {m w : Nat} {z : List D} {ps : List (Nat × Nat × Opd)} : WO O (⟨d, none, n, .bsi m w z ps⟩ :: r) e σ Q = WD (fillD e ps z) fun cs => WO O r (put d (.lst m cs) e) σ Q := by
  rw [WO_sop rfl]
  simp only [sop]
  cases fillD e ps z <;> simp
@[simp, simp ↓] theorem WO_bsm {m w : Nat} {z : List D} {ps : List (Nat × Nat × Opd)} : WO O (⟨d, none, n, .bsm m w z ps⟩ :: r) e σ Q = WV (sop e σ (.bsm m w z ps)) fun v σ' => WO O r (put d v e) σ' Q := WO_sop rfl
@[simp, simp ↓] theorem WO_ld {ag : Bool} {sz : Nat} {a : Opd} : WO O (⟨d, none, n, .ld ag sz a⟩ :: r) e σ Q = WD (ldD ag sz (rdD σ (opd e a))) fun v => WO O r (put d v e) σ Q := by
  rw [WO_sop rfl]
  refine WV_of_D ?_
  simp only [sop]
  cases rdD σ (opd e a) with
  | none => rfl
  | some cs =>
    simp only [ldD]
    split
    · cases ag
      · cases cs <;> rfl
      · rfl
    · rfl
theorem rd0_ref {σ : Stack} {l i off : Nat} : rd0 σ (.ref l i 0 off) = rdD σ (.ref l i 0 off) := rfl
@[simp, simp ↓] theorem WO_ld0 {ag : Bool} {sz : Nat} {a : Opd} : WO O (⟨d, none, n, .ld0 ag sz a⟩ :: r) e σ Q = WD (ldD ag sz (rd0 σ (opd e a))) fun v => WO O r (put d v e) σ Q := by
  rw [WO_sop rfl]
  refine WV_of_D ?_
  simp only [sop]
  cases rd0 σ (opd e a) with
  | none => rfl
  | some cs =>
    simp only [ldD]
    split
    · cases ag
      · cases cs <;> rfl
      · rfl
    · rfl
@[simp, simp ↓] theorem WO_ldi {ag : Bool} {sz : Nat} {a : Opd} : WO O (⟨d, none, n, .ldi ag sz a⟩ :: r) e σ Q = WD (ldD ag sz (crefD (opd e a))) fun v => WO O r (put d v e) σ Q := by
  rw [WO_sop rfl]
  refine WV_of_D ?_
  simp only [sop]
  cases opd e a with
  | cref cs =>
    simp only [crefD, ldD]
    split
    · cases ag
      · cases cs <;> rfl
      · rfl
    · rfl
  | _ => rfl
@[simp, simp ↓] theorem WO_isn {ps neg : Bool} {x : Opd} : WO O (⟨d, none, n, .isn ps neg x⟩ :: r) e σ Q = WD (isnD ps (opd e x)) fun b => WO O r (put d (.bool (if neg then !b else b)) e) σ Q := by
  rw [WO_sop rfl]
  simp only [sop]
  cases isnD ps (opd e x) <;> simp
@[simp, simp ↓] theorem WO_nck {x : Opd} : WO O (⟨d, none, n, .nck x⟩ :: r) e σ Q = WD (nckD (opd e x)) fun v => WO O r (put d v e) σ Q := by
  rw [WO_sop rfl]
  refine WV_of_D ?_
  simp only [sop]
  cases opd e x <;> rfl
@[simp, simp ↓] theorem WO_st {nb : List (Nat × Nat)} {sz : Nat} {a x : Opd} : WO O (⟨d, none, n, .st nb sz a x⟩ :: r) e σ Q = WV (sop e σ (.st nb sz a x)) fun v σ' => WO O r (put d v e) σ' Q := WO_sop rfl
@[simp, simp ↓] theorem WO_stc {os : List Nat} {sz : Nat} {a x : Opd} : WO O (⟨d, none, n, .stc os sz a x⟩ :: r) e σ Q = WV (sop e σ (.stc os sz a x)) fun v σ' => WO O r (put d v e) σ' Q := WO_sop rfl
@[simp] theorem off_ref {l i l' i' v o : Nat} : D.off l i (.ref l' i' v o) = decide (¬ (l' = l ∧ i' = i)) := by rw [D.off]
@[simp, simp ↓] theorem WO_ldv {v : Nat} {ag : Bool} {sz a : Nat} : WO O (⟨d, none, n, .ldv v ag sz a⟩ :: r) e σ Q = WD (ldvD e v ag sz a) fun v => WO O r (put d v e) σ Q := by
  rw [WO_sop rfl]
  refine WV_of_D ?_
  simp only [sop, ldvD]
  cases inVar e v a with
  | none => rfl
  | some x =>
    obtain ⟨s, cs, off⟩ := x
    simp only [ldD, Option.map_some]
    split
    · cases ag
      · cases cs.drop off <;> rfl
      · rfl
    · rfl
@[simp, simp ↓] theorem WO_bin {o : BinOp} {x y : Opd} : WO O (⟨d, none, n, .bin o x y⟩ :: r) e σ Q = WD (binD o (opd e x) (opd e y)) fun v => WO O r (put d v e) σ Q := by
  rw [WO_sop rfl]
  simp only [sop]
  cases binD o (opd e x) (opd e y) <;> simp
@[simp, simp ↓] theorem WO_eqv {ag : Bool} {ks : List (Option IntKind)} {neg : Bool} {x y : Opd} : WO O (⟨d, none, n, .eqv ag ks neg x y⟩ :: r) e σ Q = WD (eqvD ag ks neg (opd e x) (opd e y)) fun v => WO O r (put d v e) σ Q := by
  rw [WO_sop rfl]
  refine WV_of_D ?_
  simp only [sop, eqvD]
  cases (opd e x).row ag <;> cases (opd e y).row ag <;> simp [Option.map_map, Function.comp_def]
@[simp, simp ↓] theorem WO_un {o : UnOp} {x : Opd} : WO O (⟨d, none, n, .un o x⟩ :: r) e σ Q = WD (unD o (opd e x)) fun v => WO O r (put d v e) σ Q := by
  rw [WO_sop rfl]
  refine WV_of_D ?_
  simp only [sop]
  cases o <;> cases opd e x <;> rfl
@[simp, simp ↓] theorem WO_cvt {k : IntKind} {x : Opd} : WO O (⟨d, none, n, .cvt k x⟩ :: r) e σ Q = WD (cvtD k (opd e x)) fun v => WO O r (put d v e) σ Q := by
  rw [WO_sop rfl]
  simp only [sop]
  cases opd e x <;> simp [cvtD]
@[simp, simp ↓] theorem WO_pur {p : Pu} {xs : List Opd} : WO O (⟨d, none, n, .pur p xs⟩ :: r) e σ Q = WD (puD p (xs.map (opd e))) fun v => WO O r (put d v e) σ Q := by
  rw [WO_sop rfl]
  simp only [sop]
  cases puD p (xs.map (opd e)) <;> simp
@[simp, simp ↓] theorem WO_me {p : Me} {xs : List Opd} : WO O (⟨d, none, n, .me p xs⟩ :: r) e σ Q = WV (meD σ p (xs.map (opd e))) fun v σ' => WO O r (put d v e) σ' Q := WO_sop rfl
@[simp, simp ↓] theorem WO_mp {p : Mo} {xs : List Opd} : WO O (⟨d, none, n, .mp p xs⟩ :: r) e σ Q = WV (mpD σ p (xs.map (opd e))) fun v σ' => WO O r (put d v e) σ' Q := WO_sop rfl
@[simp, simp ↓] theorem WO_mki {t : Nat} {x : Opd} : WO O (⟨d, none, n, .mki t x⟩ :: r) e σ Q = WO O r (put d (.ifc t (opd e x)) e) σ Q := by rw [WO_sop rfl]; simp [sop]
@[simp, simp ↓] theorem WO_tas {t : Nat} {z : Option D} {x : Opd} : WO O (⟨d, none, n, .tas t z x⟩ :: r) e σ Q = WD (tasD t z (opd e x)) fun v => WO O r (put d v e) σ Q := by
  rw [WO_sop rfl]
  simp only [sop]
  cases tasD t z (opd e x) <;> simp
@[simp, simp ↓] theorem WO_isi {neg : Bool} {x : Opd} : WO O (⟨d, none, n, .isi neg x⟩ :: r) e σ Q = WD (isiD (opd e x)) fun b => WO O r (put d (.bool (if neg then !b else b)) e) σ Q := by
  rw [WO_sop rfl]
  simp only [sop]
  cases isiD (opd e x) <;> simp
@[simp] theorem isiD_nili : isiD .nili = some true := by_rfl rfl
@[simp] theorem isiD_ifc {t : Nat} {d : D} : isiD (.ifc t d) = some false := by_rfl rfl
@[simp] theorem tasD_nili {t : Nat} {z : D} : tasD t (some z) .nili = some (.tup [z, .bool false]) := by_rfl rfl
@[simp] theorem tasD_ifc {t t' : Nat} {z d : D} : tasD t (some z) (.ifc t' d) = some (if t' = t then .tup [d, .bool true] else .tup [z, .bool false]) := by_rfl rfl
@[simp] theorem tasD_one {t t' : Nat} {d : D} : tasD t none (.ifc t' d) = if t' = t then some d else none := by_rfl rfl
@[simp, simp ↓] theorem WO_mkf {f : Nat} {xs ys : List Opd} : WO O (⟨d, none, n, .mkf f xs ys⟩ :: r) e σ Q = WO O r (put d (.fn f (xs.map (opd e)) (ys.map (opd e))) e) σ Q := by rw [WO_sop rfl]; simp [sop]
@[simp, simp ↓] theorem WO_mks {w b : Nat} {z : List D} {l c : Opd} : WO O (⟨d, none, n, .mks w b z l c⟩ :: r) e σ Q = WV (sop e σ (.mks w b z l c)) fun v σ' => WO O r (put d v e) σ' Q := WO_sop rfl
@[simp, simp ↓] theorem WO_slc {w : Nat} {x : Opd} {lo hi mx : Option Opd} : WO O (⟨d, none, n, .slc w x lo hi mx⟩ :: r) e σ Q = WD (slcD w (opd e x) e lo hi mx) fun v => WO O r (put d v e) σ Q := by
  rw [WO_sop rfl]
  refine WV_of_D ?_
  simp only [sop, slcD]
  cases opd e x <;> first | rfl | (simp only []; split <;> simp [Option.map_map, Function.comp_def]) | simp [Option.map_map, Function.comp_def]
@[simp, simp ↓] theorem WO_slca {l w : Nat} {x : Opd} {lo hi : Option Opd} : WO O (⟨d, none, n, .slca l w x lo hi⟩ :: r) e σ Q = WV (sop e σ (.slca l w x lo hi)) fun v σ' => WO O r (put d v e) σ' Q := WO_sop rfl
@[simp, simp ↓] theorem WO_fadr {off m : Nat} : WO O (⟨d, none, n, .fadr off (.t m)⟩ :: r) e σ Q = WD (fadrV m off (get e m)) fun v => WO O r (put d v e) σ Q := by
  rw [WO_sop rfl]
  refine WV_of_D ?_
  simp only [sop]
  cases get e m <;> rfl
@[simp, simp ↓] theorem WO_fld {ag : Bool} {off sz : Nat} {x : Opd} : WO O (⟨d, none, n, .fld ag off sz x⟩ :: r) e σ Q = WD (fldD ag off sz (opd e x)) fun v => WO O r (put d v e) σ Q := by
  rw [WO_sop rfl]
  refine WV_of_D ?_
  simp only [sop]
  cases opd e x <;> first | rfl | (simp only [fldD]; split <;> cases ag <;> simp)
@[simp, simp ↓] theorem WO_idxA {l w m : Nat} {i : Opd} : WO O (⟨d, none, n, .idxA l w (.t m) i⟩ :: r) e σ Q = WD (idxAV m l w (get e m) (opd e i)) fun v => WO O r (put d v e) σ Q := by
  rw [WO_sop rfl]
  refine WV_of_D ?_
  simp only [sop, idxAV]
  cases intD (opd e i) with
  | none => rfl
  | some k => simp only []; split <;> cases get e m <;> rfl
@[simp, simp ↓] theorem WO_idxS {w : Nat} {x i : Opd} : WO O (⟨d, none, n, .idxS w x i⟩ :: r) e σ Q = WD (idxSV w (opd e x) (opd e i)) fun v => WO O r (put d v e) σ Q := by
  rw [WO_sop rfl]
  refine WV_of_D ?_
  simp only [sop, idxSV]
  cases intD (opd e i) with
  | none => cases opd e x <;> rfl
  | some k => cases opd e x <;> first | rfl | (simp only []; split <;> rfl)
@[simp, simp ↓] theorem WO_idxV {ag : Bool} {l w : Nat} {x i : Opd} : WO O (⟨d, none, n, .idxV ag l w x i⟩ :: r) e σ Q = WD (idxVD ag l w (opd e x) (opd e i)) fun v => WO O r (put d v e) σ Q := by
  rw [WO_sop rfl]
  refine WV_of_D ?_
  simp only [sop, idxVD]
  cases intD (opd e i) with
  | none => cases opd e x <;> rfl
  | some k => cases opd e x <;> first | rfl | (simp only []; split <;> cases ag <;> simp)
@[simp, simp ↓] theorem WO_lenS {x : Opd} : WO O (⟨d, none, n, .lenS x⟩ :: r) e σ Q = WD (lenD (opd e x)) fun v => WO O r (put d v e) σ Q := by
  rw [WO_sop rfl]
  refine WV_of_D ?_
  simp only [sop]
  cases opd e x <;> rfl
@[simp, simp ↓] theorem WO_lenC {m : Nat} : WO O (⟨d, none, n, .lenC m⟩ :: r) e σ Q = WO O r (put d (.int .i64 m) e) σ Q := by rw [WO_sop rfl]; simp [sop]
@[simp, simp ↓] theorem WO_mn {x y : Opd} : WO O (⟨d, none, n, .mn x y⟩ :: r) e σ Q = WD (mnD (opd e x) (opd e y)) fun v => WO O r (put d v e) σ Q := by
  rw [WO_sop rfl]
  refine WV_of_D ?_
  simp only [sop]
  cases opd e x <;> cases opd e y <;> rfl
@[simp, simp ↓] theorem WO_mx {x y : Opd} : WO O (⟨d, none, n, .mx x y⟩ :: r) e σ Q = WD (mxD (opd e x) (opd e y)) fun v => WO O r (put d v e) σ Q := by
  rw [WO_sop rfl]
  refine WV_of_D ?_
  simp only [sop]
  cases opd e x <;> cases opd e y <;> rfl
@[simp, simp ↓] theorem WO_cvz {x : Opd} : WO O (⟨d, none, n, .cvz x⟩ :: r) e σ Q = WV (sop e σ (.cvz x)) fun v σ' => WO O r (put d v e) σ' Q := WO_sop rfl
@[simp, simp ↓] theorem WO_apz {w b : Nat} {s x : Opd} : WO O (⟨d, none, n, .apz w b s x⟩ :: r) e σ Q = WV (sop e σ (.apz w b s x)) fun v σ' => WO O r (put d v e) σ' Q := WO_sop rfl
@[simp, simp ↓] theorem WO_apc {os : List Nat} {w b : Nat} {s x : Opd} : WO O (⟨d, none, n, .apc os w b s x⟩ :: r) e σ Q = WV (sop e σ (.apc os w b s x)) fun v σ' => WO O r (put d v e) σ' Q := WO_sop rfl
@[simp, simp ↓] theorem WO_app {w b : Nat} {s x : Opd} : WO O (⟨d, none, n, .app w b s x⟩ :: r) e σ Q = WV (sop e σ (.app w b s x)) fun v σ' => WO O r (put d v e) σ' Q := WO_sop rfl
@[simp, simp ↓] theorem WO_bse : WO O (⟨d, none, n, .bse⟩ :: r) e σ Q = WV (sop e σ .bse) fun v σ' => WO O r (put d v e) σ' Q := WO_sop rfl
@[simp, simp ↓] theorem WO_ape {w b v : Nat} {x : Opd} : WO O (⟨d, none, n, .ape w b v x⟩ :: r) e σ Q = WV (sop e σ (.ape w b v x)) fun v σ' => WO O r (put d v e) σ' Q := WO_sop rfl
@[simp, simp ↓] theorem WO_cpi {w b : Nat} {x : Opd} : WO O (⟨d, none, n, .cpi w b x⟩ :: r) e σ Q = WV (sop e σ (.cpi w b x)) fun v σ' => WO O r (put d v e) σ' Q := WO_sop rfl
@[simp, simp ↓] theorem WO_ext {x : Opd} {i : Nat} : WO O (⟨d, none, n, .ext x i⟩ :: r) e σ Q = WD (extD (opd e x) i) fun v => WO O r (put d v e) σ Q := by
  rw [WO_sop rfl]
  refine WV_of_D ?_
  simp only [sop]
  cases opd e x <;> rfl

@[simp, simp ↓] theorem WO_call {kp : Bool} {f : Opd} {args : List Opd} : WO O (⟨d, none, n, .call kp f args⟩ :: r) e σ Q =
    WV (callv O kp (opd e f) (args.map (opd e)) σ) fun v σ' => (n = true → σ' = σ) ∧ WO O r (put d v e) σ' Q := by
  simp only [WO, aops, aop, WV, eq_iff_iff]
  cases hc : callv O kp (opd e f) (args.map (opd e)) σ with
  | none => simp
  | some y =>
    obtain ⟨v, σ1⟩ := y
    by_cases hn : n = true → σ1 = σ
    · simp only [if_pos hn, Option.bind_some, Option.some.injEq, Prod.mk.injEq]
      exact ⟨fun h => ⟨v, σ1, ⟨rfl, rfl⟩, hn, h⟩, fun ⟨_, _, ⟨h1, h2⟩, _, h⟩ => by subst h1 h2; exact h⟩
    · simp only [if_neg hn, Option.bind_none, reduceCtorEq, false_and, exists_false, Option.some.injEq, Prod.mk.injEq, false_iff]
      rintro ⟨_, _, ⟨h1, h2⟩, h, _⟩
      subst h1 h2
      exact hn h

@[simp, simp ↓] theorem WO_alcv {nb : List (Nat × Nat)} {cs : List D} : WO O (⟨d, none, n, .alcv nb cs⟩ :: r) e σ Q = WD d fun v => WD (nilbs nb cs σ) fun y => WO O r ((v, .own (stamp e v) y.1) :: e) y.2 Q := by
  cases d with
  | none => simp [WO, aops, aop]
  | some v => cases h : nilbs nb cs σ with
    | none => simp [WO, aops, aop, h]
    | some y => obtain ⟨a, b⟩ := y; simp only [WO, aops, aop, h, Option.bind_some, WD_some]
@[simp, simp ↓] theorem WO_boxv {x : Opd} : WO O (⟨d, none, n, .boxv x⟩ :: r) e σ Q = WD d fun v => WD (opd e x).cells fun cs => WO O r ((v, .own (stamp e v) cs) :: e) σ Q := by
  cases d with
  | none => simp [WO, aops, aop]
  | some v => cases h : (opd e x).cells with
    | none => simp [WO, aops, aop, h]
    | some y => simp only [WO, aops, aop, h, Option.bind_some, WD_some]

def stvD (e : Env) (σ : Stack) (v : Nat) (nb : List (Nat × Nat)) (sz a : Nat) (x : Opd) : Option (D × Stack) :=
  match inVar e v a, (opd e x).cells with
  | some (s, cs, off), some p =>
    if p.length = sz ∧ off + sz ≤ cs.length then
      match nilbs nb p σ with
      | some (p', σ') => some (.own s (cs.take off ++ p' ++ cs.drop (off + sz)), σ')
      | none => none
    else none
  | _, _ => none

@[simp, simp ↓] theorem WO_stv {v : Nat} {nb : List (Nat × Nat)} {sz a : Nat} {x : Opd} : WO O (⟨d, none, n, .stv v nb sz a x⟩ :: r) e σ Q =
    WV (stvD e σ v nb sz a x) fun y σ' => WO O r ((v, y) :: e) σ' Q := by
  simp only [WO, aops, aop, stvD]
  cases h1 : inVar e v a with
  | none => simp
  | some p =>
    obtain ⟨s, cs, off⟩ := p
    cases h2 : (opd e x).cells with
    | none => simp
    | some p =>
      dsimp only
      split
      · cases h3 : nilbs nb p σ with
        | none => simp
        | some y => obtain ⟨a, b⟩ := y; simp [WO]
      · simp
end ops

section code
variable {e : Env} {σ : Stack} {Q : Exit → Env → Stack → Prop}
@[simp, simp ↓] theorem WC_nop : WC O .nop e σ Q = Q .normal e σ := by
  simp only [WC, acode, Option.some.injEq, Prod.mk.injEq, eq_iff_iff]
  exact ⟨fun ⟨_, _, _, ⟨h1, h2, h3⟩, h⟩ => by subst h1 h2 h3; exact h, fun h => ⟨_, _, _, ⟨rfl, rfl, rfl⟩, h⟩⟩
@[simp, simp ↓] theorem WC_frz {vs : List Nat} : WC O (.frz vs) e σ Q = Q .normal (frzs vs e σ).1 (frzs vs e σ).2 := by
  simp only [WC, acode, Option.some.injEq, Prod.mk.injEq, eq_iff_iff]
  exact ⟨fun ⟨_, _, _, ⟨h1, h2, h3⟩, h⟩ => by subst h1 h2 h3; exact h, fun h => ⟨_, _, _, ⟨rfl, rfl, rfl⟩, h⟩⟩
@[simp, simp ↓] theorem WC_exit {i : Nat} : WC O (.exit i) e σ Q = Q (.exit i) e σ := by
  simp only [WC, acode, Option.some.injEq, Prod.mk.injEq, eq_iff_iff]
  exact ⟨fun ⟨_, _, _, ⟨h1, h2, h3⟩, h⟩ => by subst h1 h2 h3; exact h, fun h => ⟨_, _, _, ⟨rfl, rfl, rfl⟩, h⟩⟩
@[simp, simp ↓] theorem WC_ret : WC O .ret e σ Q = Q .ret e σ := by
  simp only [WC, acode, Option.some.injEq, Prod.mk.injEq, eq_iff_iff]
  exact ⟨fun ⟨_, _, _, ⟨h1, h2, h3⟩, h⟩ => by subst h1 h2 h3; exact h, fun h => ⟨_, _, _, ⟨rfl, rfl, rfl⟩, h⟩⟩
@[simp, simp ↓] theorem WC_reg {live : List Nat} {ops : List Op} : WC O (.reg live ops) e σ Q = WO O ops e σ fun e' σ' => Q .normal (restrict live e') σ' := by
  simp only [WC, acode, WO, Option.map_eq_some_iff, Prod.mk.injEq, eq_iff_iff]
  constructor
  · rintro ⟨x, e', σ', ⟨⟨e1, σ1⟩, h1, rfl, rfl, rfl⟩, h⟩
    exact ⟨e1, σ1, h1, h⟩
  · rintro ⟨e', σ', h1, h⟩
    exact ⟨_, _, _, ⟨⟨e', σ'⟩, h1, rfl, rfl, rfl⟩, h⟩

def thenC (O : Oracle) (b : Cmd) (Q : Exit → Env → Stack → Prop) (_m : Mark b := .mk) (_m' : Mark Q := .mk) : Exit → Env → Stack → Prop
  | .normal, e, σ => WC O b e σ Q
  | .exit i, e, σ => Q (.exit i) e σ
  | .ret, e, σ => Q .ret e σ
  | .thr d, e, σ => Q (.thr d) e σ
@[simp, simp ↓] theorem thenC_thr {b : Cmd} {d : D} : thenC O b Q .mk .mk (.thr d) e σ = Q (.thr d) e σ := by_rfl rfl
@[simp, simp ↓] theorem thenC_normal {b : Cmd} : thenC O b Q .mk .mk .normal e σ = WC O b e σ Q := by_rfl rfl
@[simp, simp ↓] theorem thenC_exit {b : Cmd} {i : Nat} : thenC O b Q .mk .mk (.exit i) e σ = Q (.exit i) e σ := by_rfl rfl
@[simp, simp ↓] theorem thenC_ret {b : Cmd} : thenC O b Q .mk .mk .ret e σ = Q .ret e σ := by_rfl rfl

@[simp, simp ↓] theorem WC_seq {a b : Cmd} : WC O (.seq a b) e σ Q = WC O a e σ (thenC O b Q .mk .mk) := by
  simp only [WC, acode, Option.bind_eq_some_iff, eq_iff_iff]
  constructor
  · rintro ⟨x, e', σ', ⟨⟨x1, e1, σ1⟩, h1, h2⟩, h⟩
    refine ⟨x1, e1, σ1, h1, ?_⟩
    cases x1 with
    | normal => exact ⟨x, e', σ', h2, h⟩
    | exit i => cases h2; exact h
    | ret => cases h2; exact h
    | thr d => cases h2; exact h
  · rintro ⟨x1, e1, σ1, h1, h⟩
    cases x1 with
    | normal => obtain ⟨x, e', σ', h2, h3⟩ := h; exact ⟨x, e', σ', ⟨_, h1, h2⟩, h3⟩
    | exit i => exact ⟨_, _, _, ⟨_, h1, rfl⟩, h⟩
    | ret => exact ⟨_, _, _, ⟨_, h1, rfl⟩, h⟩
    | thr d => exact ⟨_, _, _, ⟨_, h1, rfl⟩, h⟩
@[simp, simp ↓] theorem WC_ite {c : Opd} {a b : Cmd} : WC O (.ite c a b) e σ Q = WD (boolD (opd e c)) fun t => if t = true then WC O a e σ Q else WC O b e σ Q := by
  simp only [WC, acode]
  cases opd e c <;> simp [boolD]
  rename_i t
  cases t <;> simp

def outC (id : Nat) (Q : Exit → Env → Stack → Prop) (_m : Mark Q := .mk) : Exit → Env → Stack → Prop
  | .normal, e, σ => Q .normal e σ
  | .exit i, e, σ => if i = id then Q .normal e σ else Q (.exit i) e σ
  | .ret, e, σ => Q .ret e σ
  | .thr d, e, σ => Q (.thr d) e σ
@[simp, simp ↓] theorem outC_thr {id : Nat} {d : D} : outC id Q .mk (.thr d) e σ = Q (.thr d) e σ := by_rfl rfl
@[simp, simp ↓] theorem outC_normal {id : Nat} : outC id Q .mk .normal e σ = Q .normal e σ := by_rfl rfl
@[simp, simp ↓] theorem outC_exit {id i : Nat} : outC id Q .mk (.exit i) e σ = if i = id then Q .normal e σ else Q (.exit i) e σ := by_rfl rfl
@[simp, simp ↓] theorem outC_ret {id : Nat} : outC id Q .mk .ret e σ = Q .ret e σ := by_rfl rfl

@[simp, simp ↓] theorem WC_blk {id : Nat} {a : Cmd} : WC O (.blk id a) e σ Q = WC O a e σ (outC id Q .mk) := by
  simp only [WC, acode, Option.map_eq_some_iff, eq_iff_iff]
  constructor
  · rintro ⟨x, e', σ', ⟨⟨x1, e1, σ1⟩, h1, h2⟩, h⟩
    refine ⟨x1, e1, σ1, h1, ?_⟩
    cases x1 with
    | normal => cases h2; exact h
    | exit i =>
      simp only [outC]
      dsimp only at h2
      split at h2 <;> cases h2
      · rw [if_pos (by assumption)]; exact h
      · rw [if_neg (by assumption)]; exact h
    | ret => cases h2; exact h
    | thr d => cases h2; exact h
  · rintro ⟨x1, e1, σ1, h1, h⟩
    cases x1 with
    | normal => exact ⟨_, _, _, ⟨_, h1, rfl⟩, h⟩
    | exit i =>
      simp only [outC] at h
      split at h
      · exact ⟨_, _, _, ⟨_, h1, by dsimp only; rw [if_pos (by assumption)]⟩, h⟩
      · exact ⟨_, _, _, ⟨_, h1, by dsimp only; rw [if_neg (by assumption)]⟩, h⟩
    | ret => exact ⟨_, _, _, ⟨_, h1, rfl⟩, h⟩
    | thr d => exact ⟨_, _, _, ⟨_, h1, rfl⟩, h⟩

theorem calm_calm (d : D) : d.calm.calm = d.calm := by cases d <;> rfl

theorem rget_restrict {live : List Nat} {e : Env} {t : Nat} : get (restrict live e) t = if t ∈ live then (get e t).calm else .undef := by
  induction live with
  | nil => simp [restrict, get]
  | cons a l ih =>
    simp only [restrict, List.map_cons, get, List.mem_cons]
    by_cases h : a = t
    · subst h; simp
    · have h' : ¬ t = a := fun x => h x.symm
      simp only [if_neg h, h', false_or]
      exact ih

theorem restrict_restrict {live : List Nat} {e : Env} : restrict live (restrict live e) = restrict live e := by
  simp only [restrict, List.map_inj_left, Prod.mk.injEq, true_and]
  intro t ht
  have := rget_restrict (live := live) (e := e) (t := t)
  simp only [restrict] at this
  rw [this, if_pos ht, calm_calm]

theorem stepQ_loop_restrict {live : List Nat} {seg : Bool} {c : Cmd} : stepQ T O (.loop live seg c (restrict live e) σ) = stepQ T O (.loop live seg c e σ) := by
  simp only [stepQ, restrict_restrict]

theorem lim_loop_restrict {live : List Nat} {seg : Bool} {c : Cmd} {r : R} (h : lim T (.loop live seg c (restrict live e) σ) = some r) : lim T (.loop live seg c e σ) = some r := by
  obtain ⟨n, h⟩ := lim_iff.1 h
  cases n with
  | zero => cases h
  | succ n =>
    rw [it, stepQ_loop_restrict] at h
    exact lim_iff.2 ⟨n + 1, h⟩

theorem lim_loop_restrict' {live : List Nat} {seg : Bool} {c : Cmd} {r : R} (h : lim T (.loop live seg c e σ) = some r) : lim T (.loop live seg c (restrict live e) σ) = some r := by
  obtain ⟨n, h⟩ := lim_iff.1 h
  cases n with
  | zero => cases h
  | succ n =>
    rw [it, ← stepQ_loop_restrict] at h
    exact lim_iff.2 ⟨n + 1, h⟩

theorem ctls_some' {r : Option R} {x : Exit} {e : Env} {σ : Stack} (h : R.ctls r = some (x, e, σ)) : r = some (.ctl x e σ) := by
  unfold R.ctls at h
  split at h
  · cases h; rfl
  · cases h

@[simp, simp ↓] theorem WC_loop {live : List Nat} {seg : Bool} {c : Cmd} : WC (lim T) (.loop live seg c) e σ Q = WL T live seg c (restrict live e) σ Q := by
  simp only [WC, acode, WL, eq_iff_iff]
  constructor
  · rintro ⟨x, e', σ', h1, h⟩
    cases hl : lim T (.loop live seg c e σ) with
    | none => rw [hl] at h1; cases h1
    | some r =>
      rw [hl] at h1
      cases r <;> cases h1
      exact ⟨_, _, _, lim_loop_restrict' hl, h⟩
  · rintro ⟨x, e', σ', h1, h⟩
    exact ⟨x, e', σ', by rw [lim_loop_restrict h1]; rfl, h⟩

def nextL (T : Tbl) (live : List Nat) (c : Cmd) (Q : Exit → Env → Stack → Prop) (_m : Mark c := .mk) (_m' : Mark Q := .mk) : Exit → Env → Stack → Prop
  | .normal, e, σ => WL T live false c (restrict live e) σ Q
  | .exit i, e, σ => Q (.exit i) e σ
  | .ret, e, σ => Q .ret e σ
  | .thr d, e, σ => Q (.thr d) e σ
@[simp, simp ↓] theorem nextL_thr {live : List Nat} {c : Cmd} {d : D} : nextL T live c Q .mk .mk (.thr d) e σ = Q (.thr d) e σ := by_rfl rfl
@[simp, simp ↓] theorem nextL_normal {live : List Nat} {c : Cmd} : nextL T live c Q .mk .mk .normal e σ = WL T live false c (restrict live e) σ Q := by_rfl rfl
@[simp, simp ↓] theorem nextL_exit {live : List Nat} {c : Cmd} {i : Nat} : nextL T live c Q .mk .mk (.exit i) e σ = Q (.exit i) e σ := by_rfl rfl
@[simp, simp ↓] theorem nextL_ret {live : List Nat} {c : Cmd} : nextL T live c Q .mk .mk .ret e σ = Q .ret e σ := by_rfl rfl

theorem WL_step {live : List Nat} {c c' : Cmd} (hc : c = c') (h : WC (lim T) c' (restrict live e) σ (nextL T live c Q .mk .mk)) : WL T live false c e σ Q := by
  rw [← hc] at h
  obtain ⟨x, e1, σ1, h1, h2⟩ := h
  cases x with
  | normal =>
    obtain ⟨x, e', σ', h3, h4⟩ := h2
    exact ⟨x, e', σ', lim_step (by simp [stepQ, h1, lim_loop_restrict h3]), h4⟩
  | exit i => exact ⟨_, _, _, lim_step (by simp [stepQ, h1]), h2⟩
  | ret => exact ⟨_, _, _, lim_step (by simp [stepQ, h1]), h2⟩
  | thr d => exact ⟨_, _, _, lim_step (by simp [stepQ, h1]), h2⟩

def endC (σ : Stack) (res : List Res) (d : D) (x : Exit) (e : Env) (σ1 : Stack) : Prop :=
  (∀ i, x ≠ .exit i) ∧ (∀ d, x ≠ .thr d) ∧ ∃ ds, resL e σ1 res = some ds ∧ ∃ s, frz (σ.length - 1) deep (mkRes ds) σ1 = (d, s :: σ)
@[simp, simp ↓] theorem endC_normal {σ1 : Stack} {res : List Res} {d : D} : endC σ res d .normal e σ1 = ∃ ds, resL e σ1 res = some ds ∧ ∃ s, frz (σ.length - 1) deep (mkRes ds) σ1 = (d, s :: σ) := by simp [endC]
@[simp, simp ↓] theorem endC_ret {σ1 : Stack} {res : List Res} {d : D} : endC σ res d .ret e σ1 = ∃ ds, resL e σ1 res = some ds ∧ ∃ s, frz (σ.length - 1) deep (mkRes ds) σ1 = (d, s :: σ) := by simp [endC]

theorem call_of {f : Nat} {fn : Fn} {args : List D} {σ : Stack} {d : D} {np : Nat} {res : List Res} {body : Cmd} (hT : T f = some fn) (hf : fn = ⟨np, res, body⟩) (hl : args.length = np)
    (h : WC (lim T) body (mkEnv 0 args) ([] :: σ) (endC σ res d)) :
    lim T (.call false f args σ) = some (.val d σ) := by
  subst hf
  obtain ⟨x, e1, σ1, h1, h2, h2', ds, h3, s, h4⟩ := h
  refine lim_step ?_
  simp only [stepQ, hT, if_pos hl, Bool.false_eq_true, if_false, h1]
  cases x with
  | exit i => exact absurd rfl (h2 i)
  | thr d => exact absurd rfl (h2' d)
  | normal => simp [h3, h4]
  | ret => simp [h3, h4]

def endT (σ : Stack) (d : D) (x : Exit) (e : Env) (σ1 : Stack) : Prop := x = .thr d ∧ d.clean = true ∧ ∃ s, σ1 = s :: σ
@[simp, simp ↓] theorem endT_thr {σ1 : Stack} {d d' : D} : endT σ d (.thr d') e σ1 = (d' = d ∧ d.clean = true ∧ ∃ s, σ1 = s :: σ) := by simp [endT]
theorem throws_of {f : Nat} {fn : Fn} {args : List D} {σ : Stack} {d : D} {np : Nat} {res : List Res} {body : Cmd} (hT : T f = some fn) (hf : fn = ⟨np, res, body⟩) (hl : args.length = np)
    (h : WC (lim T) body (mkEnv 0 args) ([] :: σ) (endT σ d)) :
    lim T (.call false f args σ) = some (.thr d σ) := by
  subst hf
  obtain ⟨x, e1, σ1, h1, rfl, hc, s, rfl⟩ := h
  refine lim_step ?_
  simp only [stepQ, hT, if_pos hl, Bool.false_eq_true, if_false, h1]
  simp [thrown, hc]

def WR (r : Option R) (Qn Qt : D → Stack → Prop) (_m : Mark Qn := .mk) (_m' : Mark Qt := .mk) : Prop := (∃ d σ', r = some (.val d σ') ∧ Qn d σ') ∨ ∃ d σ', r = some (.thr d σ') ∧ Qt d σ'
@[simp, simp ↓] theorem WR_val {d : D} {σ' : Stack} {Qn Qt : D → Stack → Prop} : WR (some (.val d σ')) Qn Qt = Qn d σ' := by
  simp only [WR, Option.some.injEq, R.val.injEq, reduceCtorEq, false_and, exists_false, or_false, eq_iff_iff]
  exact ⟨fun ⟨_, _, ⟨h1, h2⟩, h⟩ => by subst h1 h2; exact h, fun h => ⟨_, _, ⟨rfl, rfl⟩, h⟩⟩
@[simp, simp ↓] theorem WR_thr {d : D} {σ' : Stack} {Qn Qt : D → Stack → Prop} : WR (some (.thr d σ')) Qn Qt = Qt d σ' := by
  simp only [WR, Option.some.injEq, R.thr.injEq, reduceCtorEq, false_and, exists_false, false_or, eq_iff_iff]
  exact ⟨fun ⟨_, _, ⟨h1, h2⟩, h⟩ => by subst h1 h2; exact h, fun h => ⟨_, _, ⟨rfl, rfl⟩, h⟩⟩
def panD : D → Option D
  | .ifc t d => if d.clean then some (.ifc t d) else none
  | _ => none
@[simp] theorem panD_ifc {t : Nat} {d : D} : panD (.ifc t d) = if d.clean then some (.ifc t d) else none := by_rfl rfl
@[simp] theorem callr_fn {O : Oracle} {f : Nat} {first cap args : List D} {σ : Stack} : callr O (.fn f first cap) args σ = O (.call false f (first ++ args ++ cap) σ) := by_rfl rfl

@[simp, simp ↓] theorem WC_treg_call {live : List Nat} {pre post : List Op} {dst : Option Nat} {n : Bool} {f : Opd} {args : List Opd} : WC O (.treg live pre ⟨dst, none, n, .call false f args⟩ post) e σ Q =
    WO O pre e σ fun e1 σ1 => WR (callr O (opd e1 f) (args.map (opd e1)) σ1) (fun d σ2 => WO O post (put dst d e1) σ2 fun e' σ' => Q .normal (restrict live e') σ') (fun d σ2 => Q (.thr d) e1 σ2) := by
  simp only [WC, WO, acode, aopt, Option.bind_eq_some_iff, eq_iff_iff]
  constructor
  · rintro ⟨x, e', σ', ⟨⟨e1, σ1⟩, h1, h2⟩, h⟩
    refine ⟨e1, σ1, h1, ?_⟩
    dsimp only at h2
    cases hc : callr O (opd e1 f) (args.map (opd e1)) σ1 with
    | none => rw [hc] at h2; simp [aoptR] at h2
    | some r =>
      rw [hc] at h2
      cases r with
      | ctl => simp [aoptR] at h2
      | thr d σ2 => simp only [aoptR, Option.some.injEq, Prod.mk.injEq] at h2; obtain ⟨rfl, rfl, rfl⟩ := h2; rw [WR_thr]; exact h
      | val d σ2 =>
        simp only [aoptR, Option.map_eq_some_iff] at h2
        obtain ⟨⟨e3, σ3⟩, h3, h4⟩ := h2
        cases h4
        rw [WR_val]
        exact ⟨e3, σ3, h3, h⟩
  · rintro ⟨e1, σ1, h1, h⟩
    rcases h with ⟨d, σ2, h2, e3, σ3, h3, h4⟩ | ⟨d, σ2, h2, h4⟩
    · exact ⟨.normal, _, σ3, ⟨(e1, σ1), h1, by simp only [h2, aoptR, h3, Option.map_some]⟩, h4⟩
    · exact ⟨.thr d, e1, σ2, ⟨(e1, σ1), h1, by simp only [h2, aoptR]⟩, h4⟩
@[simp, simp ↓] theorem WC_treg_pan {live : List Nat} {pre post : List Op} {dst : Option Nat} {n : Bool} {x : Opd} : WC O (.treg live pre ⟨dst, none, n, .pan x⟩ post) e σ Q =
    WO O pre e σ fun e1 σ1 => WD (panD (opd e1 x)) fun d => Q (.thr d) e1 σ1 := by
  simp only [WC, WO, acode, aopt, Option.bind_eq_some_iff, eq_iff_iff]
  constructor
  · rintro ⟨x', e', σ', ⟨⟨e1, σ1⟩, h1, h2⟩, h⟩
    refine ⟨e1, σ1, h1, ?_⟩
    dsimp only at h2
    cases hx : opd e1 x <;> rw [hx] at h2 <;> try (cases h2; done)
    dsimp only at h2
    split at h2
    · rename_i hc; cases h2; simp only [panD_ifc, hc, if_true, WD_some]; exact h
    · cases h2
  · rintro ⟨e1, σ1, h1, d, h2, h⟩
    refine ⟨.thr d, e1, σ1, ⟨(e1, σ1), h1, ?_⟩, h⟩
    dsimp only
    cases hx : opd e1 x <;> rw [hx] at h2 <;> try (cases h2; done)
    simp only [panD_ifc] at h2
    split at h2
    · rename_i hc; cases h2; simp [hc]
    · cases h2

def WM (T : Tbl) (live : List Nat) (it : Opd) (nx ok b : Nat) (c rest : Cmd) (e : Env) (σ : Stack) (Q : Exit → Env → Stack → Prop) (_m : Mark c := .mk) (_m' : Mark rest := .mk) (_m'' : Mark Q := .mk) : Prop := ∃ x e' σ', lim T (.mloop live it nx ok b c rest e σ) = some (.ctl x e' σ') ∧ Q x e' σ'
theorem WM.mono {live : List Nat} {it : Opd} {nx ok b : Nat} {c rest : Cmd} {Q' : Exit → Env → Stack → Prop} (h : WM T live it nx ok b c rest e σ Q) (hq : ∀ x e σ, Q x e σ → Q' x e σ) : WM T live it nx ok b c rest e σ Q' :=
  let ⟨x, e', σ', h1, h2⟩ := h; ⟨x, e', σ', h1, hq _ _ _ h2⟩
theorem stepQ_mloop_restrict {live : List Nat} {it : Opd} {nx ok b : Nat} {c rest : Cmd} : stepQ T O (.mloop live it nx ok b c rest (restrict live e) σ) = stepQ T O (.mloop live it nx ok b c rest e σ) := by
  simp only [stepQ, restrict_restrict]
theorem lim_mloop_restrict {live : List Nat} {it : Opd} {nx ok b : Nat} {c rest : Cmd} {r : R} : lim T (.mloop live it nx ok b c rest (restrict live e) σ) = some r ↔ lim T (.mloop live it nx ok b c rest e σ) = some r := by
  constructor <;> intro h <;> obtain ⟨n, h⟩ := lim_iff.1 h <;> cases n <;> first | (cases h; done) | skip
  · rw [Abs.it, stepQ_mloop_restrict] at h; exact lim_iff.2 ⟨_ + 1, h⟩
  · rw [Abs.it, ← stepQ_mloop_restrict] at h; exact lim_iff.2 ⟨_ + 1, h⟩
@[simp, simp ↓] theorem WC_mloop {live : List Nat} {it : Opd} {nx ok b : Nat} {c rest : Cmd} : WC (lim T) (.mloop live it nx ok b c rest) e σ Q = WM T live it nx ok b c rest (restrict live e) σ Q := by
  simp only [WC, acode, WM, eq_iff_iff]
  constructor
  · rintro ⟨x, e', σ', h1, h⟩
    exact ⟨_, _, _, lim_mloop_restrict.2 (ctls_some' h1), h⟩
  · rintro ⟨x, e', σ', h1, h⟩
    exact ⟨x, e', σ', by rw [lim_mloop_restrict.1 h1]; rfl, h⟩

def nextM (T : Tbl) (live : List Nat) (it : Opd) (l i nx ok b : Nat) (c rest : Cmd) (r : R) (_m : Mark c := .mk) (_m' : Mark rest := .mk) : Exit → Env → Stack → Prop
  | .normal, e, σ => lim T (.mloop live it nx ok b c rest (restrict live e) σ) = some r
  | .exit j, e, σ => if j = b then WC (lim T) rest e (setBlk σ l i .dead) fun x e' σ' => r = .ctl x e' σ' else r = .ctl (.exit j) e (setBlk σ l i .dead)
  | .ret, e, σ => r = .ctl .ret e (setBlk σ l i .dead)
  | .thr _, _, _ => False
@[simp, simp ↓] theorem nextM_normal {live : List Nat} {it : Opd} {l i nx ok b : Nat} {c rest : Cmd} {r : R} : nextM T live it l i nx ok b c rest r .mk .mk .normal e σ = (lim T (.mloop live it nx ok b c rest (restrict live e) σ) = some r) := by_rfl rfl
@[simp, simp ↓] theorem nextM_exit {live : List Nat} {it : Opd} {l i nx ok b j : Nat} {c rest : Cmd} {r : R} : nextM T live it l i nx ok b c rest r .mk .mk (.exit j) e σ = if j = b then WC (lim T) rest e (setBlk σ l i .dead) fun x e' σ' => r = .ctl x e' σ' else r = .ctl (.exit j) e (setBlk σ l i .dead) := by_rfl rfl
@[simp, simp ↓] theorem nextM_ret {live : List Nat} {it : Opd} {l i nx ok b : Nat} {c rest : Cmd} {r : R} : nextM T live it l i nx ok b c rest r .mk .mk .ret e σ = (r = .ctl .ret e (setBlk σ l i .dead)) := by_rfl rfl

theorem mend_of {l i b : Nat} {rest : Cmd} {r : R} {x : Exit} {e1 : Env} {σ1 : Stack} {live : List Nat} {it : Opd} {nx ok : Nat} {c : Cmd} (hx : x ≠ .normal) (h : nextM T live it l i nx ok b c rest r .mk .mk x e1 σ1) : mend (lim T) l i b rest (some (x, e1, σ1)) = some r := by
  cases x with
  | normal => exact absurd rfl hx
  | thr d => exact h.elim
  | ret => simp only [nextM_ret] at h; subst h; rfl
  | exit j =>
    simp only [nextM_exit] at h
    simp only [mend]
    split at h
    · rename_i hj
      obtain ⟨x', e', σ', h1, rfl⟩ := h
      rw [if_pos hj, h1]; rfl
    · rename_i hj
      subst h
      rw [if_neg hj]

theorem mloop_of {live : List Nat} {it : Opd} {l i nx ok b : Nat} {c c' rest rest' : Cmd} {r : R} {m : D} {n : Nat} {js : List D} {us : List Nat} (hcc : c = c') (hrr : rest = rest') (hit : opd (restrict live e) it = .yld l i) (hd : iterD σ l i = some (m, n, js, us)) (hne : us ≠ [])
    (h : ∀ u ∈ us, WC (lim T) c' ((ok, .bool true) :: (nx, .undef) :: restrict live e) (setBlk σ l i (.cells 1 (m :: .int .i64 (n : Nat) :: .int .i64 (u : Nat) :: js))) (nextM T live it l i nx ok b c rest' r .mk .mk)) :
    lim T (.mloop live it nx ok b c rest e σ) = some r := by
  subst hcc hrr
  refine lim_step ?_
  simp only [stepQ, hit, hd]
  have key : ∀ u ∈ us, mnext (lim T) live it l i nx ok b c rest (acode (lim T) c ((ok, .bool true) :: (nx, .undef) :: restrict live e) (setBlk σ l i (.cells 1 (m :: .int .i64 (n : Nat) :: .int .i64 (u : Nat) :: js)))) = some r := by
    intro u hu
    obtain ⟨x, e1, σ1, h1, h2⟩ := h u hu
    rw [h1]
    cases x with
    | normal => exact lim_mloop_restrict.1 h2
    | exit j => exact mend_of (x := .exit j) (by simp) h2
    | ret => exact mend_of (x := .ret) (by simp) h2
    | thr d => exact h2.elim
  cases us with
  | nil => exact absurd rfl hne
  | cons u us => exact all_agree (by simp) key

theorem mloop_end {live : List Nat} {it : Opd} {l i nx ok b : Nat} {c c' rest rest' : Cmd} {r : R} {m : D} {n : Nat} {js : List D} (hcc : c = c') (hrr : rest = rest') (hit : opd (restrict live e) it = .yld l i) (hd : iterD σ l i = some (m, n, js, []))
    (h : WC (lim T) c' ((ok, .bool false) :: (nx, .undef) :: restrict live e) σ fun x e1 σ1 => x ≠ .normal ∧ nextM T live it l i nx ok b c rest' r .mk .mk x e1 σ1) :
    lim T (.mloop live it nx ok b c rest e σ) = some r := by
  subst hcc hrr
  refine lim_step ?_
  simp only [stepQ, hit, hd]
  obtain ⟨x, e1, σ1, h1, hx, h2⟩ := h
  rw [h1]
  exact mend_of hx h2

def thOf : Exit → Option (Option D)
  | .normal => some none
  | .ret => some none
  | .thr d => some (some d)
  | .exit _ => none
@[simp] theorem thOf_normal : thOf .normal = some none := by_rfl rfl
@[simp] theorem thOf_ret : thOf .ret = some none := by_rfl rfl
@[simp] theorem thOf_thr {d : D} : thOf (.thr d) = some (some d) := by_rfl rfl

noncomputable def dcallV (T : Tbl) (fv : D) (args : List D) (th : Option D) (σ : Stack) : Option Stack :=
  match dcallR (lim T) fv args th σ with
  | some (.val _ σ') => some σ'
  | _ => none
theorem dcallV_fn {f : Nat} {first cap args : List D} {th : Option D} {σ σ' : Stack} {d : D} (h : lim T (.dcall f (first ++ args ++ cap) th σ) = some (.val d σ')) : dcallV T (.fn f first cap) args th σ = some σ' := by
  simp only [dcallV, dcallR, h]

def endD (T : Tbl) (fv : D) (args : List D) (σ : Stack) (res : List Res) (d : D) (x : Exit) (e : Env) (σ1 : Stack) : Prop :=
  WD (thOf x) fun th => WD (dcallV T fv args th σ1) fun σ2 => ∃ ds, resL e σ2 res = some ds ∧ ∃ s, frz (σ.length - 1) deep (mkRes ds) σ2 = (d, s :: σ)
def toD (T : Tbl) (f : Opd) (args : List Opd) (q : Cmd) (σ : Stack) (res : List Res) (d : D) (x : Exit) (e : Env) (σ1 : Stack) (_m : Mark q := .mk) : Prop :=
  x = .normal ∧ WC (lim T) q e σ1 (endD T (opd e f) (args.map (opd e)) σ res d)

theorem call_dfr {f : Nat} {fn : Fn} {args : List D} {σ : Stack} {d : D} {np : Nat} {res : List Res} {body A q : Cmd} {fo : Opd} {as : List Opd} (hT : T f = some fn) (hf : fn = ⟨np, res, body⟩) (hl : args.length = np) (hs : splitT body = some (A, fo, as, q))
    (h : WC (lim T) A (mkEnv 0 args) ([] :: σ) (toD T fo as q σ res d)) :
    lim T (.call false f args σ) = some (.val d σ) := by
  subst hf
  obtain ⟨x, e1, σ1, h1, rfl, x2, e2, σ2, h2, th, h3, σ3, h4, ds, h5, s, h6⟩ := h
  refine lim_step ?_
  have hn : acode (lim T) body (mkEnv 0 args) ([] :: σ) = none := split_none0 hs h1
  simp only [stepQ, hT, if_pos hl, Bool.false_eq_true, if_false, hn, hs, dbody, h1, h2]
  have h4' : ∃ dv, dcallR (lim T) (opd e1 fo) (as.map (opd e1)) th σ2 = some (.val dv σ3) := by
    unfold dcallV at h4
    split at h4
    · rename_i h7; cases h4; exact ⟨_, h7⟩
    · cases h4
  obtain ⟨dv, h4'⟩ := h4'
  cases x2 with
  | exit i => cases h3
  | normal => cases h3; simp only [dtail, h4', dleave, leave, h5, h6]
  | ret => cases h3; simp only [dtail, h4', dleave, leave, h5, h6]
  | thr d => cases h3; simp only [dtail, h4', dleave, leave, h5, h6]

def endX (σ' : Stack) (res : List Res) (x : Exit) (e : Env) (σ1 : Stack) : Prop :=
  (∀ i, x ≠ .exit i) ∧ (∀ d, x ≠ .thr d) ∧ resL e σ1 res = some [] ∧ ∃ s, σ1 = s :: σ'
@[simp, simp ↓] theorem endX_normal {σ' σ1 : Stack} {res : List Res} : endX σ' res .normal e σ1 = (resL e σ1 res = some [] ∧ ∃ s, σ1 = s :: σ') := by simp [endX]
@[simp, simp ↓] theorem endX_ret {σ' σ1 : Stack} {res : List Res} : endX σ' res .ret e σ1 = (resL e σ1 res = some [] ∧ ∃ s, σ1 = s :: σ') := by simp [endX]
theorem dcall_of {f : Nat} {fn : Fn} {args : List D} {th : Option D} {σ σ' : Stack} {np : Nat} {res : List Res} {body q : Cmd} {e0 : Env} (hT : T f = some fn) (hf : fn = ⟨np, res, body⟩) (hl : args.length = np) (hr : afterRcv th args body = some (e0, q))
    (h : WC (lim T) q e0 ([] :: σ) (endX σ' res)) : lim T (.dcall f args th σ) = some (.val (.tup []) σ') := by
  subst hf
  obtain ⟨x, e1, σ1, h1, h2, h2', h3, s, rfl⟩ := h
  refine lim_step ?_
  simp only [stepQ, hT, if_pos hl, hr, h1]
  cases x with
  | exit i => exact absurd rfl (h2 i)
  | thr d => exact absurd rfl (h2' d)
  | normal => simp [h3]
  | ret => simp [h3]
end code

@[simp] theorem get_cons {k t : Nat} {v : D} {r : Env} : get ((k, v) :: r) t = if k = t then v else get r t := by_rfl rfl
@[simp] theorem put_some {t : Nat} {v : D} {e : Env} : put (some t) v e = (t, v) :: e := by_rfl rfl
@[simp] theorem put_none {v : D} {e : Env} : put none v e = e := by_rfl rfl
@[simp] theorem opd_t {e : Env} {n : Nat} : opd e (.t n) = (get e n).strip := by_rfl rfl
@[simp] theorem opd_c {e : Env} {d : D} : opd e (.c d) = d := by_rfl rfl
@[simp] theorem restrict_nil {e : Env} : restrict [] e = [] := by_rfl rfl
@[simp] theorem restrict_cons {t : Nat} {l : List Nat} {e : Env} : restrict (t :: l) e = (t, (get e t).calm) :: restrict l e := by_rfl rfl
@[simp] theorem mkEnv_nil {n : Nat} : mkEnv n [] = [] := by_rfl rfl
@[simp] theorem mkEnv_cons {n : Nat} {d : D} {ds : List D} : mkEnv n (d :: ds) = (n, d) :: mkEnv (n + 1) ds := by_rfl rfl
section
variable {e : Env} {σ : Stack}
@[simp] theorem resL_nil : resL e σ [] = some [] := by_rfl rfl
@[simp] theorem resL_cons {r : Res} {rs : List Res} : resL e σ (r :: rs) = (resD e σ r).bind fun d => (resL e σ rs).map fun ds => d :: ds := by_rfl rfl
@[simp] theorem resD_t {n : Nat} : resD e σ (.t n) = some (get e n).strip := by_rfl rfl
@[simp] theorem resD_c {n sz : Nat} {ag : Bool} : resD e σ (.c n ag sz) = ldD ag sz (rdD σ (get e n).strip) := by
  simp only [resD, sop, opd_t]
  cases rdD σ (get e n).strip with
  | none => rfl
  | some cs =>
    simp only [ldD]
    split
    · cases ag
      · cases cs <;> rfl
      · rfl
    · rfl
@[simp] theorem resD_v {n sz : Nat} {ag : Bool} : resD e σ (.v n ag sz) = ldvD e n ag sz n := by
  simp only [resD, sop, ldvD]
  cases inVar e n n with
  | none => rfl
  | some x =>
    obtain ⟨s, cs, off⟩ := x
    simp only [ldD, Option.map_some]
    split
    · cases ag
      · cases cs.drop off <;> rfl
      · rfl
    · rfl
@[simp] theorem mkRes_one {d : D} : mkRes [d] = d := by_rfl rfl
@[simp] theorem mkRes_nil : mkRes [] = .tup [] := by_rfl rfl
@[simp] theorem mkRes_two {d d' : D} {ds : List D} : mkRes (d :: d' :: ds) = .tup (d :: d' :: ds) := by_rfl rfl
@[simp] theorem fillD_nil {cs : List D} : fillD e [] cs = some cs := by_rfl rfl
@[simp] theorem fillD_cons {off sz : Nat} {x : Opd} {r : List (Nat × Nat × Opd)} {cs : List D} : fillD e ((off, sz, x) :: r) cs =
    ((opd e x).cells.bind fun p => if p.length = sz ∧ off + sz ≤ cs.length then some (cs.take off ++ p ++ cs.drop (off + sz)) else none).bind (fillD e r) := by
  simp only [fillD]
  cases (opd e x).cells with
  | none => rfl
  | some p => dsimp only [Option.bind_some]; split <;> rfl
@[simp] theorem nilbs_nil' {cs : List D} : nilbs [] cs σ = some (cs, σ) := by_rfl rfl
@[simp] theorem elems_nils {w : Nat} : elems σ w .nils = some (0, []) := by_rfl rfl
@[simp] theorem elems_str {w : Nat} {s : List UInt8} : elems σ w (.str s) = if w = 1 then some (s.length, strCells s) else none := by_rfl rfl
@[simp] theorem elems_lst {w n : Nat} {cs : List D} : elems σ w (.lst n cs) = if cs.length = n * w then some (n, cs) else none := by_rfl rfl
@[simp] theorem elems_sl {w l i v off n w' : Nat} : elems σ w (.sl l i v off n w') = if w' = w then (match cells? σ l i v with | some cs => if off + n * w ≤ cs.length then some (n, (cs.drop off).take (n * w)) else none | none => none) else none := by_rfl rfl
end
attribute [simp] sop appD nilbs newBlk inVar stamp stvD ldvD bnd bounds D.row cells? blk? seg? setBlk setSeg

@[simp] theorem rclean_undef : D.clean .undef = true := by rw [D.clean]
@[simp] theorem rclean_bool {b : Bool} : D.clean (.bool b) = true := by rw [D.clean]
@[simp] theorem rclean_int {k : IntKind} {n : Int} : D.clean (.int k n) = true := by rw [D.clean]
@[simp] theorem rclean_str {s : List UInt8} : D.clean (.str s) = true := by rw [D.clean]
@[simp] theorem rclean_nilp : D.clean .nilp = true := by rw [D.clean]
@[simp] theorem rclean_nils : D.clean .nils = true := by rw [D.clean]
@[simp] theorem rclean_ifc {t : Nat} {d : D} : D.clean (.ifc t d) = D.clean d := by rw [D.clean]
@[simp] theorem rclean_nili : D.clean .nili = true := by rw [D.clean]
@[simp] theorem rclean_nilf : D.clean .nilf = true := by rw [D.clean]
@[simp] theorem rclean_ref {l i v o : Nat} : D.clean (.ref l i v o) = false := by rw [D.clean]
@[simp] theorem rclean_sl {l i v o n w : Nat} : D.clean (.sl l i v o n w) = false := by rw [D.clean]
@[simp] theorem rclean_yld {l i : Nat} : D.clean (.yld l i) = false := by rw [D.clean]
@[simp] theorem rclean_vr {l i v : Nat} : D.clean (.vr l i v) = true := by rw [D.clean]
@[simp] theorem rclean_own {s : Nat} {cs : List D} : D.clean (.own s cs) = D.cleanL cs := by rw [D.clean]
@[simp] theorem rclean_agg {cs : List D} : D.clean (.agg cs) = D.cleanL cs := by rw [D.clean]
@[simp] theorem rclean_tup {cs : List D} : D.clean (.tup cs) = D.cleanL cs := by rw [D.clean]
@[simp] theorem rclean_cref {cs : List D} : D.clean (.cref cs) = D.cleanL cs := by rw [D.clean]
@[simp] theorem rclean_lst {n : Nat} {cs : List D} : D.clean (.lst n cs) = D.cleanL cs := by rw [D.clean]
@[simp] theorem rclean_fn {f : Nat} {a b : List D} : D.clean (.fn f a b) = (D.cleanL a && D.cleanL b) := by rw [D.clean]
@[simp] theorem cleanL_nil : D.cleanL [] = true := by rw [D.cleanL]
@[simp] theorem cleanL_cons {d : D} {ds : List D} : D.cleanL (d :: ds) = (D.clean d && D.cleanL ds) := by rw [D.cleanL]
@[simp] theorem deep_def : deep = 16 := by_rfl rfl
@[simp] theorem frz_clean {l n : Nat} {d : D} {σ : Stack} (h : d.clean = true) (hn : 0 < n) : frz l n d σ = (d, σ) := by
  obtain ⟨m, rfl⟩ : ∃ m, n = m + 1 := ⟨n - 1, by omega⟩
  unfold frz; simp [h]
@[simp] theorem frzL_clean {l n : Nat} {ds : List D} {σ : Stack} (h : D.cleanL ds = true) (hn : 0 < n) : frz.frzL (frz l n) ds σ = (ds, σ) := by
  induction ds generalizing σ with
  | nil => rfl
  | cons d ds ih =>
    simp only [D.cleanL, Bool.and_eq_true] at h
    simp [frz.frzL, h.1, ih h.2, hn]
@[simp] theorem frzL_nil {f : D → Stack → D × Stack} {σ : Stack} : frz.frzL f [] σ = ([], σ) := by_rfl rfl
@[simp] theorem frzL_cons {f : D → Stack → D × Stack} {d : D} {ds : List D} {σ : Stack} : frz.frzL f (d :: ds) σ = ((f d σ).1 :: (frz.frzL f ds (f d σ).2).1, (frz.frzL f ds (f d σ).2).2) := by_rfl rfl
theorem frz_tup {l n : Nat} {ds : List D} {σ : Stack} (h : D.cleanL ds = false) (hn : 0 < n) : frz l n (.tup ds) σ = (.tup (frz.frzL (frz l (n - 1)) ds σ).1, (frz.frzL (frz l (n - 1)) ds σ).2) := by
  obtain ⟨m, rfl⟩ : ∃ m, n = m + 1 := ⟨n - 1, by omega⟩
  conv => lhs; unfold frz
  simp [D.clean, h]
theorem frz_agg {l n : Nat} {ds : List D} {σ : Stack} (h : D.cleanL ds = false) (hn : 0 < n) : frz l n (.agg ds) σ = (.agg (frz.frzL (frz l (n - 1)) ds σ).1, (frz.frzL (frz l (n - 1)) ds σ).2) := by
  obtain ⟨m, rfl⟩ : ∃ m, n = m + 1 := ⟨n - 1, by omega⟩
  conv => lhs; unfold frz
  simp [D.clean, h]
theorem frz_sl {l n l' i v off m w : Nat} {σ : Stack} {cs : List D} (h : ¬ l' ≤ l) (hc : cells? σ l' i v = some cs) (hn : 0 < n) :
    frz l n (.sl l' i v off m w) σ = (.lst m (frz.frzL (frz l (n - 1)) ((cs.drop off).take (m * w)) (setBlk σ l' i .dead)).1, (frz.frzL (frz l (n - 1)) ((cs.drop off).take (m * w)) (setBlk σ l' i .dead)).2) := by
  obtain ⟨m, rfl⟩ : ∃ m, n = m + 1 := ⟨n - 1, by omega⟩
  conv => lhs; unfold frz
  simp only [D.clean, h, hc, Bool.false_eq_true, if_false, Nat.add_sub_cancel]

@[simp] theorem frz_sl_low {l n l' i v off m w : Nat} {σ : Stack} (h : l' ≤ l) (hn : 0 < n) : frz l n (.sl l' i v off m w) σ = (.sl l' i v off m w, σ) := by
  obtain ⟨m, rfl⟩ : ∃ m, n = m + 1 := ⟨n - 1, by omega⟩
  conv => lhs; unfold frz
  simp only [D.clean, h, if_true, Bool.false_eq_true, if_false]
@[simp] theorem frz_ref_low {l n l' i v off : Nat} {σ : Stack} (h : l' ≤ l) (hn : 0 < n) : frz l n (.ref l' i v off) σ = (.ref l' i v off, σ) := by
  obtain ⟨m, rfl⟩ : ∃ m, n = m + 1 := ⟨n - 1, by omega⟩
  conv => lhs; unfold frz
  simp only [D.clean, h, if_true, Bool.false_eq_true, if_false]

@[simp] theorem lenne1 {n : Nat} : (n + 1 = n) = False := by simp
@[simp] theorem lenne2 {n : Nat} : (n + 1 + 1 = n) = False := by simp; omega
@[simp] theorem lenne3 {n : Nat} : (n + 1 + 1 + 1 = n) = False := by simp; omega
@[simp] theorem lenne4 {n : Nat} : (n + 1 + 1 + 1 + 1 = n) = False := by simp; omega
@[simp] theorem lenne5 {n : Nat} : (n + 1 + 1 + 1 + 1 + 1 = n) = False := by simp; omega

theorem cleanL_append {a b : List D} : D.cleanL (a ++ b) = (D.cleanL a && D.cleanL b) := by
  induction a with
  | nil => rfl
  | cons d a ih => simp [D.cleanL, ih, Bool.and_assoc]

theorem cleanL_flat {α : Type} {f : α → List D} {l : List α} (h : ∀ x ∈ l, D.cleanL (f x) = true) : D.cleanL (l.flatMap f) = true := by
  induction l with
  | nil => rfl
  | cons a l ih => simp only [List.flatMap_cons, cleanL_append, Bool.and_eq_true]; exact ⟨h a (by simp), ih fun x hx => h x (by simp [hx])⟩

end Go.Abs

/-
  Answers that are known already: a long walk is cut in pieces.
-/
set_option linter.unusedVariables false
namespace Go.Abs
open Go

structure Memo where
  f : Nat
  a : List D
  s : Stack
  d : D
  t : Stack
def Memo.Ok (T : Tbl) (m : Memo) : Prop := lim T (.call false m.f m.a m.s) = some (.val m.d m.t)
def Memo.ask (m : Memo) : Q → Option R
  | .call false f a σ => if f = m.f then if a = m.a then if σ = m.s then some (.val m.d m.t) else none else none else none
  | _ => none
theorem Memo.Ok.ask {T : Tbl} {m : Memo} (h : m.Ok T) {q : Q} {r : R} (hq : m.ask q = some r) : lim T q = some r := by
  unfold Memo.ask at hq
  split at hq
  case h_2 => cases hq
  split at hq
  case isFalse => cases hq
  rename_i h1
  split at hq
  case isFalse => cases hq
  rename_i h2
  split at hq
  case isFalse => cases hq
  rename_i h3
  cases hq
  rw [h1, h2, h3]
  exact h
def askM (M : List Memo) (q : Q) : Option R := M.findSome? fun m => m.ask q
def itM (T : Tbl) (M : List Memo) : Nat → Oracle
  | 0 => askM M
  | n + 1 => fun q => match askM M q with
    | some r => some r
    | none => stepQ T (itM T M n) q
theorem askM_ok {T : Tbl} {M : List Memo} (hM : ∀ m ∈ M, m.Ok T) {q : Q} {r : R} (h : askM M q = some r) : lim T q = some r := by
  obtain ⟨m, h1, h2⟩ := List.exists_of_findSome?_eq_some h
  exact (hM m h1).ask h2
theorem itM_lim {T : Tbl} {M : List Memo} (hM : ∀ m ∈ M, m.Ok T) : ∀ {n : Nat} {q : Q} {r : R}, itM T M n q = some r → lim T q = some r
  | 0, q, r, h => askM_ok hM h
  | n + 1, q, r, h => by
    unfold itM at h
    split at h
    · rename_i h1; cases h; exact askM_ok hM h1
    · exact lim_step (stepQ_mono (fun q r => itM_lim hM) h)
end Go.Abs

/-
  What a value as data has to do with a value of the model: the relation, the invariant of the memory, how both go on.
-/
namespace Go.Abs
open Go

inductive Loc where
  | dead
  | virt (v : Nat)
  | at (blk off v sz : Nat)
  | lp (blk : Nat)
  | mp (blk : Nat)
  | it (blk : Nat)
  | ob (blk : Nat) (buf : Option Nat)

def Loc.okv : Loc → Nat → Prop
  | .dead, _ => True
  | .virt v', v => v ≤ v'
  | .at _ _ v' _, v => v ≤ v'
  | .lp _, _ => False
  | .mp _, _ => False
  | .it _, _ => False
  | .ob .., _ => False

def Loc.owns : Loc → Nat → Prop
  | .at b _ _ _, x => b = x
  | .lp b, x => b = x
  | .mp b, x => b = x
  | .it b, x => b = x
  | .ob b c, x => b = x ∨ c = some x
  | _, _ => False

structure G where
  loc : Nat → Nat → Option Loc
  imm : Nat → Nat → Option Value

def G.row (g : G) (b o : Nat) (vs : List Value) : Prop := ∀ j v, vs[j]? = some v → g.imm b (o + j) = some v

mutual
inductive RelV (g : G) : D → Value → Prop
  | undef (c : Value) : RelV g .undef c
  | bool (b : Bool) : RelV g (.bool b) (.bool b)
  | int (k : IntKind) (n : Int) : RelV g (.int k n) (.int k n)
  | str (s : ByteArray) : RelV g (.str s.data.toList) (.string s)
  | agg (ds : List D) (cs : Array Value) : RelL g ds cs.toList → (∀ c ∈ cs.toList, c.oneCell' = true) → RelV g (.agg ds) (.agg cs)
  | tup (ds : List D) (cs : Array Value) : RelL g ds cs.toList → RelV g (.tup ds) (.tuple cs)
  | nilp : RelV g .nilp (.pointer none)
  | ref (l i v off b o : Nat) (L : Loc) : g.loc l i = some L → L.okv v →
      (∀ blk bo sz, L = .at blk bo v sz → b = blk ∧ o = bo + off) → L ≠ .virt v → RelV g (.ref l i v off) (.pointer (some ⟨b, o, none⟩))
  | cref (ds : List D) (b o : Nat) (vs : List Value) : g.row b o vs → RelL g ds vs → RelV g (.cref ds) (.pointer (some ⟨b, o, none⟩))
  | nils : RelV g .nils (.slice none 0 0)
  | lstn : RelV g (.lst 0 []) (.slice none 0 0)
  | lst (n : Nat) (ds : List D) (a : Addr) (cap : Nat) (vs : List Value) : n ≤ cap → g.row a.block a.off vs → (n ≠ 0 → a.spot = none) → RelL g ds vs →
      RelV g (.lst n ds) (.slice (some a) n cap)
  | sl (l i v off n w : Nat) (a : Option Addr) (cap : Nat) (L : Loc) : g.loc l i = some L → L.okv v → (n ≤ cap ∧ cap < 9223372036854775808) → (a = none → cap = 0) → (∀ x, a = some x → n ≠ 0 → x.spot = none) →
      (∀ blk bo sz, L = .at blk bo v sz → (a = some ⟨blk, bo + off, none⟩ ∧ bo + off + cap * w ≤ sz) ∨ cap = 0) →
      (L = .virt v → a = none) → RelV g (.sl l i v off n w) (.slice a n cap)
  | fn (f : Nat) (fs cs : List D) (fs' cs' : Array Value) : RelL g fs fs'.toList → RelL g cs cs'.toList → RelV g (.fn f fs cs) (.func (.func f) fs' cs')
  | nilf : RelV g .nilf .nilFunc
  | yld (l i b : Nat) : g.loc l i = some (.lp b) → RelV g (.yld l i) (.func (.yield b) #[] #[])
  | mpv (l i b : Nat) : g.loc l i = some (.mp b) → RelV g (.yld l i) (.map (some b))
  | itv (l i b : Nat) (L : Loc) : g.loc l i = some L → (L = .it b ∨ L = .dead) → RelV g (.yld l i) (.pointer (some ⟨b, 0, none⟩))
  | bdv (l i b : Nat) (L : Loc) : g.loc l i = some L → ((∃ c, L = .ob b c) ∨ L = .dead) → RelV g (.yld l i) (.pointer (some ⟨b, 0, none⟩))
  | ifc (t : Nat) (d : D) (c : Value) : RelV g d c → RelV g (.ifc t d) (.iface t c)
  | nili : RelV g .nili .nilIface
inductive RelL (g : G) : List D → List Value → Prop
  | nil : RelL g [] []
  | cons (d : D) (c : Value) (ds : List D) (cs : List Value) : RelV g d c → RelL g ds cs → RelL g (d :: ds) (c :: cs)
end

def Loc.le : Loc → Loc → Prop
  | .dead, L => L = .dead
  | .lp b, L => L = .lp b
  | .mp b, L => L = .mp b
  | .it b, L => L = .it b ∨ L = .dead
  | .ob b _, L => (∃ c, L = .ob b c) ∨ L = .dead
  | .virt v, L => L = .virt v ∨ L = .dead ∨ (∃ b o v' s, L = .at b o v' s ∧ v < v') ∨ ∃ v', L = .virt v' ∧ v < v'
  | .at b o v s, L => L = .at b o v s ∨ L = .dead ∨ ∃ b' o' v' s', L = .at b' o' v' s' ∧ v < v'

theorem Loc.le_refl (L : Loc) : L.le L := by cases L <;> simp [Loc.le]

theorem Loc.le_trans {a b c : Loc} (h : a.le b) (h' : b.le c) : a.le c := by
  cases a with
  | dead => simp only [Loc.le] at h; subst h; exact h'
  | lp x => simp only [Loc.le] at h; subst h; exact h'
  | mp x => simp only [Loc.le] at h; subst h; exact h'
  | it x =>
    simp only [Loc.le] at h
    rcases h with rfl | rfl
    · exact h'
    · simp only [Loc.le] at h' ⊢; exact .inr h'
  | ob x y =>
    simp only [Loc.le] at h
    rcases h with ⟨c, rfl⟩ | rfl
    · exact h'
    · simp only [Loc.le] at h' ⊢; exact .inr h'
  | virt v =>
    simp only [Loc.le] at h
    rcases h with rfl | rfl | ⟨b1, o, v', s, rfl, hv⟩ | ⟨v', rfl, hv⟩
    · exact h'
    · simp only [Loc.le] at h' ⊢; exact .inr (.inl h')
    · simp only [Loc.le] at h' ⊢
      rcases h' with rfl | rfl | ⟨b2, o2, v2, s2, rfl, hv2⟩
      · exact .inr (.inr (.inl ⟨_, _, _, _, rfl, hv⟩))
      · exact .inr (.inl rfl)
      · exact .inr (.inr (.inl ⟨_, _, _, _, rfl, by omega⟩))
    · simp only [Loc.le] at h' ⊢
      rcases h' with rfl | rfl | ⟨b2, o2, v2, s2, rfl, hv2⟩ | ⟨v2, rfl, hv2⟩
      · exact .inr (.inr (.inr ⟨_, rfl, hv⟩))
      · exact .inr (.inl rfl)
      · exact .inr (.inr (.inl ⟨_, _, _, _, rfl, by omega⟩))
      · exact .inr (.inr (.inr ⟨_, rfl, by omega⟩))
  | «at» b1 o v s =>
    simp only [Loc.le] at h
    rcases h with rfl | rfl | ⟨b2, o2, v2, s2, rfl, hv⟩
    · exact h'
    · simp only [Loc.le] at h' ⊢; exact .inr (.inl h')
    · simp only [Loc.le] at h' ⊢
      rcases h' with rfl | rfl | ⟨b3, o3, v3, s3, rfl, hv3⟩
      · exact .inr (.inr ⟨_, _, _, _, rfl, hv⟩)
      · exact .inr (.inl rfl)
      · exact .inr (.inr ⟨_, _, _, _, rfl, by omega⟩)

theorem Loc.okv_le {L L' : Loc} {v : Nat} (h : L.okv v) (h' : L.le L') : L'.okv v := by
  cases L with
  | dead => simp only [Loc.le] at h'; subst h'; trivial
  | lp b => exact h.elim
  | mp b => exact h.elim
  | it b => exact h.elim
  | ob b c => exact h.elim
  | virt v' =>
    simp only [Loc.le] at h'; simp only [Loc.okv] at h
    rcases h' with rfl | rfl | ⟨b, o, v', s, rfl, hv⟩ | ⟨v', rfl, hv⟩ <;> simp only [Loc.okv] <;> omega
  | «at» b o v' s =>
    simp only [Loc.le] at h'; simp only [Loc.okv] at h
    rcases h' with rfl | rfl | ⟨b', o', v'', s', rfl, hv⟩ <;> simp only [Loc.okv] <;> omega

structure G.le (g g' : G) : Prop where
  loc : ∀ l i L, g.loc l i = some L → ∃ L', g'.loc l i = some L' ∧ L.le L'
  imm : ∀ b o v, g.imm b o = some v → g'.imm b o = some v

theorem G.le_refl (g : G) : g.le g := ⟨fun _ _ L h => ⟨L, h, L.le_refl⟩, fun _ _ _ h => h⟩

theorem G.le_trans {a b c : G} (h : a.le b) (h' : b.le c) : a.le c :=
  ⟨fun l i L e => let ⟨L1, e1, h1⟩ := h.loc l i L e; let ⟨L2, e2, h2⟩ := h'.loc l i L1 e1; ⟨L2, e2, Loc.le_trans h1 h2⟩,
   fun x o v e => h'.imm x o v (h.imm x o v e)⟩

theorem G.row_le {g g' : G} (h : g.le g') {b o : Nat} {vs : List Value} (hr : g.row b o vs) : g'.row b o vs := fun j v e => h.imm _ _ _ (hr j v e)

theorem Loc.back {L L' : Loc} {v : Nat} (h : L.okv v) (h' : L.le L') {b o s : Nat} (e : L' = .at b o v s) : L = .at b o v s := by
  subst e
  cases L with
  | dead => simp [Loc.le] at h'
  | lp b => simp [Loc.le] at h'
  | mp b => simp [Loc.le] at h'
  | it b => simp [Loc.le] at h'
  | ob b c => simp [Loc.le] at h'
  | virt v' =>
    simp only [Loc.le] at h'; simp only [Loc.okv] at h
    rcases h' with h' | h' | ⟨b, o, v', s, h', hv⟩ | ⟨v', h', hv⟩ <;> simp_all
    omega
  | «at» b o v' s =>
    simp only [Loc.le] at h'; simp only [Loc.okv] at h
    rcases h' with h' | h' | ⟨b', o', v'', s', h', hv⟩ <;> simp_all
    omega

theorem Loc.back_virt {L L' : Loc} {v : Nat} (h : L.okv v) (h' : L.le L') (e : L' = .virt v) : L = .virt v := by
  subst e
  cases L with
  | dead => simp [Loc.le] at h'
  | lp b => simp [Loc.le] at h'
  | mp b => simp [Loc.le] at h'
  | it b => simp [Loc.le] at h'
  | ob b c => simp [Loc.le] at h'
  | virt v' =>
    simp only [Loc.le] at h'; simp only [Loc.okv] at h
    rcases h' with h' | h' | ⟨b, o, v', s, h', hv⟩ | ⟨v', h', hv⟩ <;> simp_all
    omega
  | «at» b o v' s => simp [Loc.le] at h'

theorem Loc.back_lp {L L' : Loc} (h' : L.le L') {b : Nat} (e : L' = .lp b) : L = .lp b := by
  subst e
  cases L <;> simp_all [Loc.le]

mutual
theorem RelV.mono {g g' : G} (h : g.le g') : ∀ {d : D} {c : Value}, RelV g d c → RelV g' d c
  | _, _, .undef c => .undef c
  | _, _, .bool b => .bool b
  | _, _, .int k n => .int k n
  | _, _, .str s => .str s
  | _, _, .agg ds cs hr h1 => .agg ds cs (RelL.mono h hr) h1
  | _, _, .tup ds cs hr => .tup ds cs (RelL.mono h hr)
  | _, _, .nilp => .nilp
  | _, _, .ref l i v off b o L e hv hc hn =>
    let ⟨L', e', hl⟩ := h.loc l i L e
    .ref l i v off b o L' e' (Loc.okv_le hv hl) (fun blk bo sz eq => hc blk bo sz (Loc.back hv hl eq)) (fun eq => hn (Loc.back_virt hv hl eq))
  | _, _, .cref ds b o vs hr hl => .cref ds b o vs (G.row_le h hr) (RelL.mono h hl)
  | _, _, .nils => .nils
  | _, _, .lstn => .lstn
  | _, _, .lst n ds a cap vs hn hr hs hl => .lst n ds a cap vs hn (G.row_le h hr) hs (RelL.mono h hl)
  | _, _, .sl l i v off n w a cap L e hv hn ha hs hc hc' =>
    let ⟨L', e', hl⟩ := h.loc l i L e
    .sl l i v off n w a cap L' e' (Loc.okv_le hv hl) hn ha hs (fun blk bo sz eq => hc blk bo sz (Loc.back hv hl eq)) (fun eq => hc' (Loc.back_virt hv hl eq))
  | _, _, .fn f fs cs fs' cs' h1 h2 => .fn f fs cs fs' cs' (RelL.mono h h1) (RelL.mono h h2)
  | _, _, .nilf => .nilf
  | _, _, .yld l i b e =>
    let ⟨L', e', hl⟩ := h.loc l i _ e
    .yld l i b (by rw [e', show L' = .lp b from hl])
  | _, _, .mpv l i b e =>
    let ⟨L', e', hl⟩ := h.loc l i _ e
    .mpv l i b (by rw [e', show L' = .mp b from hl])
  | _, _, .itv l i b L e hc =>
    let ⟨L', e', hl⟩ := h.loc l i L e
    .itv l i b L' e' (by
      rcases hc with rfl | rfl
      · exact hl
      · exact .inr hl)
  | _, _, .bdv l i b L e hc =>
    let ⟨L', e', hl⟩ := h.loc l i L e
    .bdv l i b L' e' (by
      rcases hc with ⟨c, rfl⟩ | rfl
      · exact hl
      · exact .inr hl)
  | _, _, .ifc t d c h1 => .ifc t d c (RelV.mono h h1)
  | _, _, .nili => .nili
theorem RelL.mono {g g' : G} (h : g.le g') : ∀ {ds : List D} {cs : List Value}, RelL g ds cs → RelL g' ds cs
  | _, _, .nil => .nil
  | _, _, .cons d c ds cs h1 h2 => .cons d c ds cs (RelV.mono h h1) (RelL.mono h h2)
end

section lists
variable {g : G}
theorem RelL.length {ds : List D} {cs : List Value} (h : RelL g ds cs) : ds.length = cs.length := by
  induction ds generalizing cs with
  | nil => cases h; rfl
  | cons d ds ih => cases h with | cons _ c _ cs h1 h2 => simp [ih h2]
theorem RelL.get {ds : List D} {cs : List Value} (h : RelL g ds cs) {j : Nat} {d : D} (e : ds[j]? = some d) : ∃ c, cs[j]? = some c ∧ RelV g d c := by
  induction ds generalizing cs j with
  | nil => simp at e
  | cons d0 ds ih =>
    cases h with
    | cons _ c _ cs h1 h2 =>
      cases j with
      | zero => simp at e; subst e; exact ⟨c, rfl, h1⟩
      | succ j => exact ih h2 (by simpa using e)
theorem RelL.get' {ds : List D} {cs : List Value} (h : RelL g ds cs) {j : Nat} {c : Value} (e : cs[j]? = some c) : ∃ d, ds[j]? = some d ∧ RelV g d c := by
  induction cs generalizing ds j with
  | nil => simp at e
  | cons c0 cs ih =>
    cases h with
    | cons d _ ds _ h1 h2 =>
      cases j with
      | zero => simp at e; subst e; exact ⟨d, rfl, h1⟩
      | succ j => exact ih h2 (by simpa using e)
theorem RelL.append {a b : List D} {x y : List Value} (h : RelL g a x) (h' : RelL g b y) : RelL g (a ++ b) (x ++ y) := by
  induction a generalizing x with
  | nil => cases h; exact h'
  | cons d a ih => cases h with | cons _ c _ cs h1 h2 => exact .cons _ _ _ _ h1 (ih h2)
theorem RelL.take {a : List D} {x : List Value} (h : RelL g a x) (n : Nat) : RelL g (a.take n) (x.take n) := by
  induction a generalizing x n with
  | nil => cases h; simpa using RelL.nil
  | cons d a ih =>
    cases h with
    | cons _ c _ cs h1 h2 =>
      cases n with
      | zero => exact .nil
      | succ n => exact .cons _ _ _ _ h1 (ih h2 n)
theorem RelL.drop {a : List D} {x : List Value} (h : RelL g a x) (n : Nat) : RelL g (a.drop n) (x.drop n) := by
  induction a generalizing x n with
  | nil => cases h; simpa using RelL.nil
  | cons d a ih =>
    cases h with
    | cons _ c _ cs h1 h2 =>
      cases n with
      | zero => exact .cons _ _ _ _ h1 h2
      | succ n => exact ih h2 n
theorem RelL.of_get {ds : List D} {cs : List Value} (hl : ds.length = cs.length) (h : ∀ (j : Nat) (d : D) (c : Value), ds[j]? = some d → cs[j]? = some c → RelV g d c) : RelL g ds cs := by
  induction ds generalizing cs with
  | nil => cases cs with
    | nil => exact .nil
    | cons c cs => simp at hl
  | cons d ds ih =>
    cases cs with
    | nil => simp at hl
    | cons c cs =>
      exact .cons _ _ _ _ (h 0 d c rfl rfl) (ih (by simpa using hl) fun j d' c' e e' => h (j + 1) d' c' (by simpa using e) (by simpa using e'))
theorem RelV.cells {d : D} {c : Value} (h : RelV g d c) {ds : List D} (e : d.cells = some ds) : RelL g ds c.cells.toList ∧ ∀ x ∈ c.cells.toList, x.oneCell' = true := by
  have h0 := h
  cases h with
  | agg ds' cs hr h1 => simp only [D.cells, Option.some.injEq] at e; subst e; exact ⟨hr, h1⟩
  | undef c => simp [D.cells] at e
  | tup => simp [D.cells] at e
  | _ => simp only [D.cells, Option.some.injEq] at e; subst e; exact ⟨.cons _ _ _ _ h0 .nil, by simp [Value.cells, Value.oneCell']⟩
end lists


def RelEnv (g : G) (e : Env) (tmps : Array Value) : Prop := ∀ t, RelV g (get e t) (tmps.getD t Go.undef)

theorem RelEnv.mono {g g' : G} (h : g.le g') {e : Env} {tmps : Array Value} (hr : RelEnv g e tmps) : RelEnv g' e tmps := fun t => (hr t).mono h

structure CRel where
  rel : Cmd → Code → Nat → Prop
  glb : Nat → (Obj → Prop) → Prop

def stOf : Nat → LoopState
  | 0 => .ready
  | 1 => .busy
  | 2 => .done
  | _ => .exhausted

def pendOf : Option Exit → Option (Option Code)
  | none => some none
  | some (.exit id) => some (some (.exit id))
  | some .ret => some (some .ret)
  | some .normal => none
  | some (.thr _) => none

structure RelLoop (CR : CRel) (g : G) (lp : LoopSt) (r : Loop) : Prop where
  state : r.state = stOf lp.state
  pend : pendOf lp.pend = some r.pending
  env : RelEnv g lp.env r.tmps
  params : r.params.toList = lp.params
  small : ∀ t ∈ lp.params, t < r.tmps.size
  both : CR.rel (.ite (.t 0) lp.asg lp.body) (.cond (.tmp 0) r.assign r.body) r.tmps.size

def MapOk (es : List MapEntry) (clock : Nat) : Prop := es.map (·.born) = List.range es.length ∧ clock = es.length

def RelB (CR : CRel) (g : G) (w : World) : Blk → Loc → Prop
  | .cells v cs, .at b off v' sz => v = v' ∧ ∃ (c : Array Value) (el : TypeId), w.heap[b]? = some (.cells c el (0, 0)) ∧ c.size = sz ∧ off + cs.length ≤ sz ∧
      ∃ vs, RelL g cs vs ∧ (∀ j x, vs[j]? = some x → c[off + j]? = some x ∧ x.oneCell' = true)
  | .cells v cs, .virt v' => v = v' ∧ cs = []
  | .dead, .dead => True
  | .loop lp, .lp b => ∃ r, w.heap[b]? = some (.loop r) ∧ RelLoop CR g lp r
  | .cells v es, .mp b => v = 0 ∧ ∃ ents clock, w.heap[b]? = some (.map ents clock) ∧ RelL g es (ents.toList.map fun e => .tuple #[e.key, e.val]) ∧ MapOk ents.toList clock
  | .cells v cs, .it b => v = 1 ∧ ∃ l i bm n, ∃ js : List Nat, cs = .yld l i :: .int .i64 (n : Nat) :: js.map (fun j : Nat => D.int .i64 j) ∧ g.loc l i = some (.mp bm) ∧
      w.heap[b]? = some (.mapIter (some bm) n js.reverse.toArray n) ∧ js.Nodup ∧ ∀ j ∈ js, j < n
  | .cells v cs, .ob b c => v = 2 ∧ ∃ (T e : Nat) (bs : List UInt8) (p s : Value), cs = [.int .i64 T, .int .i64 e, .str bs] ∧ w.heap[b]? = some (.cells #[p, s] T (0, 0)) ∧
      (p = .pointer none ∨ p = .pointer (some ⟨b, 0, none⟩)) ∧ w.ownsRowF 0 e 1 s bs.length (bs.map fun x => .int .u8 x.toNat) ∧ s.ownBlock = c ∧ c ≠ some b
  | _, _ => False

structure Inv (CR : CRel) (base : Nat) (g : G) (σ : Stack) (w : World) : Prop where
  ge : base ≤ w.heap.size
  dom : ∀ l i L, g.loc l i = some L → ∃ b, blk? σ l i = some b ∧ RelB CR g w b L
  imm : ∀ b o v, g.imm b o = some v → w.cell? ⟨b, o, none⟩ = some v ∧ v.oneCell' = true
  sep : ∀ l i L b, g.loc l i = some L → L.owns b → ∀ o, g.imm b o = none
  inj : ∀ l i L l' i' L' b, g.loc l i = some L → g.loc l' i' = some L' → L.owns b → L'.owns b → l = l' ∧ i = i'
  lo : ∀ l i L b, g.loc l i = some L → L.owns b → base ≤ b ∧ b < w.heap.size
  tot : ∀ l i b, blk? σ l i = some b → ∃ L, g.loc l i = some L
  glb : ∀ b Q, CR.glb b Q → (∃ v, g.imm b 0 = some v) ∧ ∃ o, w.heap[b]? = some o ∧ Q o

def G.has (g : G) (b : Nat) : Prop := ∃ l i L, g.loc l i = some L ∧ L.owns b

structure Ev (g : G) (w : World) (g' : G) (w' : World) : Prop where
  le : g.le g'
  os : w'.os = w.os
  tape : w'.tape = w.tape
  output : w'.output = w.output
  size : w.heap.size ≤ w'.heap.size
  kept : ∀ b, b < w.heap.size → ¬ g.has b → w'.heap[b]? = w.heap[b]?
  img : ∀ b, g'.has b → g.has b ∨ w.heap.size ≤ b
  immN : ∀ b o v, g'.imm b o = some v → g.imm b o = some v ∨ g.has b ∨ w.heap.size ≤ b

theorem Ev.refl (g : G) (w : World) : Ev g w g w := ⟨g.le_refl, rfl, rfl, rfl, Nat.le_refl _, fun _ _ _ => rfl, fun _ h => .inl h, fun _ _ _ h => .inl h⟩

theorem Ev.trans {g g1 g2 : G} {w w1 w2 : World} (h : Ev g w g1 w1) (h' : Ev g1 w1 g2 w2) : Ev g w g2 w2 where
  le := G.le_trans h.le h'.le
  os := h'.os.trans h.os
  tape := h'.tape.trans h.tape
  output := h'.output.trans h.output
  size := Nat.le_trans h.size h'.size
  kept b hb hn := by
    have h1 : ¬ g1.has b := fun hx => by
      rcases h.img b hx with hx | hx
      · exact hn hx
      · omega
    rw [h'.kept b (Nat.lt_of_lt_of_le hb h.size) h1, h.kept b hb hn]
  img b hb := by
    rcases h'.img b hb with hx | hx
    · exact h.img b hx
    · exact .inr (Nat.le_trans h.size hx)
  immN b o v hv := by
    rcases h'.immN b o v hv with hx | hx | hx
    · exact h.immN b o v hx
    · exact .inr (h.img b hx)
    · exact .inr (.inr (Nat.le_trans h.size hx))


section stack
theorem seg?_lt {σ : Stack} {l : Nat} {s : List Blk} (h : seg? σ l = some s) : l < σ.length := by
  induction σ with
  | nil => simp [seg?] at h
  | cons s0 σ ih =>
    simp only [seg?] at h
    split at h
    · simp; omega
    · have := ih h; simp; omega

theorem seg?_setSeg {σ : Stack} {l : Nat} {s : List Blk} (h : l < σ.length) : seg? (setSeg σ l s) l = some s := by
  induction σ with
  | nil => simp at h
  | cons s0 σ ih =>
    simp only [setSeg]
    split
    · rename_i e; simp [seg?, e]
    · rename_i e
      simp only [seg?]
      rw [setSeg_length]
      rw [if_neg e]
      exact ih (by simp at h; omega)
where
  setSeg_length {σ : Stack} {l : Nat} {s : List Blk} : (setSeg σ l s).length = σ.length := by
    induction σ with
    | nil => rfl
    | cons s0 σ ih => simp only [setSeg]; split <;> simp [ih]

theorem setSeg_length {σ : Stack} {l : Nat} {s : List Blk} : (setSeg σ l s).length = σ.length := seg?_setSeg.setSeg_length

theorem seg?_setSeg_other {σ : Stack} {l l' : Nat} {s : List Blk} (h : l' ≠ l) : seg? (setSeg σ l s) l' = seg? σ l' := by
  induction σ with
  | nil => rfl
  | cons s0 σ ih =>
    simp only [setSeg]
    split
    · rename_i e; simp only [seg?]; rw [if_neg (by omega), if_neg (by omega)]
    · simp only [seg?, setSeg_length]; split
      · rfl
      · exact ih

theorem setBlk_length {σ : Stack} {l i : Nat} {b : Blk} : (setBlk σ l i b).length = σ.length := by
  unfold setBlk; split
  · exact setSeg_length
  · rfl

theorem blk?_setBlk {σ : Stack} {l i : Nat} {b b0 : Blk} (h : blk? σ l i = some b0) : blk? (setBlk σ l i b) l i = some b := by
  unfold blk? at h
  cases hs : seg? σ l with
  | none => simp [hs] at h
  | some s =>
    simp only [hs, Option.bind_some] at h
    have hi : i < s.length := (List.getElem?_eq_some_iff.1 h).1
    simp only [setBlk, hs, blk?, seg?_setSeg (seg?_lt hs), Option.bind_some]
    simp [hi]

theorem blk?_setBlk_other {σ : Stack} {l i l' i' : Nat} {b : Blk} (h : ¬ (l' = l ∧ i' = i)) : blk? (setBlk σ l i b) l' i' = blk? σ l' i' := by
  unfold setBlk
  cases hs : seg? σ l with
  | none => rfl
  | some s =>
    simp only [blk?]
    by_cases hl : l' = l
    · subst hl
      rw [seg?_setSeg (seg?_lt hs), hs]
      simp only [Option.bind_some]
      rw [List.getElem?_set_ne]
      intro e; exact h ⟨rfl, e.symm⟩
    · rw [seg?_setSeg_other hl]

theorem newBlk_spec {σ σ' : Stack} {b : Blk} {l i : Nat} (h : newBlk σ b = some (l, i, σ')) :
    blk? σ l i = none ∧ blk? σ' l i = some b ∧ (∀ l' i', ¬ (l' = l ∧ i' = i) → blk? σ' l' i' = blk? σ l' i') ∧ σ'.length = σ.length ∧ l + 1 = σ.length := by
  cases σ with
  | nil => simp [newBlk] at h
  | cons s σ =>
    simp only [newBlk, Option.some.injEq, Prod.mk.injEq] at h
    obtain ⟨rfl, rfl, rfl⟩ := h
    refine ⟨by simp [blk?, seg?], by simp [blk?, seg?], ?_, rfl, rfl⟩
    intro l' i' hn
    simp only [blk?, seg?]
    split
    · rename_i e
      simp only [Option.bind_some]
      rw [List.getElem?_append]
      split
      · rfl
      · rename_i hlt
        have : i' ≠ s.length := fun e' => hn ⟨e.symm, e'⟩
        rw [List.getElem?_eq_none (by simp; omega), List.getElem?_eq_none (by omega)]
    · rfl
end stack

theorem RelB.mono {CR : CRel} {g g' : G} {w w' : World} {b : Blk} {L : Loc} (h : RelB CR g w b L) (hg : g.le g')
    (hw : ∀ x, L.owns x → w'.heap[x]? = w.heap[x]?) : RelB CR g' w' b L := by
  cases b with
  | cells v cs =>
    cases L with
    | «at» x off v' sz =>
      obtain ⟨rfl, c, el, hb, hsz, hlen, vs, hr, hv⟩ := h
      exact ⟨rfl, c, el, (hw x rfl).trans hb, hsz, hlen, vs, hr.mono hg, hv⟩
    | virt v' => exact h
    | dead => exact h
    | lp x => exact h
    | mp x =>
      obtain ⟨hv, ents, clock, hb, hr, hm⟩ := h
      exact ⟨hv, ents, clock, (hw x rfl).trans hb, hr.mono hg, hm⟩
    | it x =>
      obtain ⟨hv, l, i, bm, n, js, h1, h2, h3, h4⟩ := h
      obtain ⟨L', e', hl⟩ := hg.loc l i _ h2
      exact ⟨hv, l, i, bm, n, js, h1, by rw [e', show L' = .mp bm from hl], (hw x rfl).trans h3, h4⟩
    | ob x y =>
      obtain ⟨hv, T, e, bs, p, s, h1, h2, h3, h4, h5, h6⟩ := h
      refine ⟨hv, T, e, bs, p, s, h1, (hw x (.inl rfl)).trans h2, h3, ⟨h4.1, h4.2.imp id fun ⟨q, cap, cur, fz, k1, k2, k3, k4⟩ => ⟨q, cap, cur, fz, k1, k2, (hw q (.inr ?_)).trans k3, k4⟩⟩, h5, h6⟩
      rw [← h5, k1]; rfl
  | dead => cases L <;> exact h
  | loop lp =>
    cases L with
    | lp x =>
      obtain ⟨r, hb, hr⟩ := h
      exact ⟨r, (hw x rfl).trans hb, { hr with env := hr.env.mono hg }⟩
    | «at» x off v' sz => exact h
    | virt v' => exact h
    | dead => exact h
    | mp x => exact h
    | it x => exact h
    | ob x y => exact h

theorem Inv.turn {CR : CRel} {base : Nat} {g g' : G} {σ σ' : Stack} {w w' : World} (hi : Inv CR base g σ w) (l i : Nat)
    (hle : g.le g')
    (hσ : ∀ l' i', ¬ (l' = l ∧ i' = i) → blk? σ' l' i' = blk? σ l' i')
    (hloc : ∀ l' i', ¬ (l' = l ∧ i' = i) → g'.loc l' i' = g.loc l' i')
    (hw : ∀ l' i' L b, ¬ (l' = l ∧ i' = i) → g.loc l' i' = some L → L.owns b → w'.heap[b]? = w.heap[b]?)
    (hnew : ∀ L, g'.loc l i = some L → ∃ b, blk? σ' l i = some b ∧ RelB CR g' w' b L)
    (himm : ∀ b o v, g'.imm b o = some v → w'.cell? ⟨b, o, none⟩ = some v ∧ v.oneCell' = true)
    (hsep : ∀ l' i' L b, g'.loc l' i' = some L → L.owns b → ∀ o, g'.imm b o = none)
    (hinj : ∀ L b, g'.loc l i = some L → L.owns b → base ≤ b ∧ b < w'.heap.size ∧ ∀ l' i' L', ¬ (l' = l ∧ i' = i) → g.loc l' i' = some L' → ¬ L'.owns b)
    (hsize : w.heap.size ≤ w'.heap.size) (htot : ∃ L, g'.loc l i = some L) (hlow : ∀ b v, g.imm b 0 = some v → w'.heap[b]? = w.heap[b]?) : Inv CR base g' σ' w' where
  glb b Q h := let ⟨⟨v, hb⟩, o, ho, hq⟩ := hi.glb b Q h; ⟨⟨v, hle.imm _ _ _ hb⟩, o, (hlow b v hb).trans ho, hq⟩
  tot l' i' b e := by
    by_cases h : l' = l ∧ i' = i
    · obtain ⟨rfl, rfl⟩ := h; exact htot
    · rw [hσ l' i' h] at e; rw [hloc l' i' h]; exact hi.tot l' i' b e
  ge := Nat.le_trans hi.ge hsize
  dom l' i' L e := by
    by_cases h : l' = l ∧ i' = i
    · obtain ⟨rfl, rfl⟩ := h; exact hnew L e
    · rw [hloc l' i' h] at e
      obtain ⟨b, hb, hr⟩ := hi.dom l' i' L e
      exact ⟨b, (hσ l' i' h).trans hb, hr.mono hle fun x hx => hw l' i' L x h e hx⟩
  imm := himm
  sep := hsep
  inj l1 i1 L1 l2 i2 L2 b h1 h2 e1 e2 := by
    by_cases c1 : l1 = l ∧ i1 = i
    · obtain ⟨rfl, rfl⟩ := c1
      by_cases c2 : l2 = l1 ∧ i2 = i1
      · exact ⟨c2.1.symm, c2.2.symm⟩
      · rw [hloc l2 i2 c2] at h2
        exact absurd e2 ((hinj L1 b h1 e1).2.2 l2 i2 L2 c2 h2)
    · rw [hloc l1 i1 c1] at h1
      by_cases c2 : l2 = l ∧ i2 = i
      · obtain ⟨rfl, rfl⟩ := c2
        exact absurd e1 ((hinj L2 b h2 e2).2.2 l1 i1 L1 c1 h1)
      · rw [hloc l2 i2 c2] at h2
        exact hi.inj _ _ _ _ _ _ b h1 h2 e1 e2
  lo l' i' L b e eb := by
    by_cases h : l' = l ∧ i' = i
    · obtain ⟨rfl, rfl⟩ := h; exact ⟨(hinj L b e eb).1, (hinj L b e eb).2.1⟩
    · rw [hloc l' i' h] at e
      have := hi.lo l' i' L b e eb
      exact ⟨this.1, by omega⟩


theorem cell?_congr {w w' : World} {b o : Nat} (h : w'.heap[b]? = w.heap[b]?) : w'.cell? ⟨b, o, none⟩ = w.cell? ⟨b, o, none⟩ := by
  simp only [World.cell?, h]

theorem Inv.heap {CR : CRel} {base : Nat} {g : G} {σ : Stack} {w w1 : World} (hi : Inv CR base g σ w) (h : w1.heap = w.heap) : Inv CR base g σ w1 where
  ge := by rw [h]; exact hi.ge
  dom l i L e := let ⟨b, hb, hr⟩ := hi.dom l i L e; ⟨b, hb, hr.mono g.le_refl fun x _ => by rw [h]⟩
  imm b o v e := let ⟨h1, h2⟩ := hi.imm b o v e; ⟨(cell?_congr (by rw [h])).trans h1, h2⟩
  sep := hi.sep
  inj := hi.inj
  tot := hi.tot
  glb := by rw [h]; exact hi.glb
  lo l i L b e eb := by rw [h]; exact hi.lo l i L b e eb

theorem Ev.heap (g : G) {w w1 : World} (h : w1.heap = w.heap) (ho : w1.os = w.os) (ht : w1.tape = w.tape) (hp : w1.output = w.output) : Ev g w g w1 :=
  ⟨g.le_refl, ho, ht, hp, by rw [h]; exact Nat.le_refl _, fun b _ _ => by rw [h], fun b hb => .inl hb, fun b o v hv => .inl hv⟩

theorem Inv.imm_lt {CR : CRel} {base : Nat} {g : G} {σ : Stack} {w : World} (hi : Inv CR base g σ w) {b o : Nat} {v : Value} (h : g.imm b o = some v) : b < w.heap.size :=
  World.block_lt_of_cell? (a := ⟨b, o, none⟩) w (hi.imm b o v h).1

theorem Inv.has_lt {CR : CRel} {base : Nat} {g : G} {σ : Stack} {w : World} (hi : Inv CR base g σ w) {b : Nat} (h : g.has b) : b < w.heap.size :=
  let ⟨l, i, L, e, eb⟩ := h; (hi.lo l i L b e eb).2

def G.addImm (g : G) (x : Nat) (vs : List Value) : G := ⟨g.loc, fun b o => if b = x then vs[o]? else g.imm b o⟩

theorem alloc_old {w : World} {o : Obj} {b : Nat} (h : b < w.heap.size) : (w.alloc o).heap[b]? = w.heap[b]? := by
  simp only [World.alloc, Array.getElem?_push]; rw [if_neg (by omega)]

theorem alloc_new {w : World} {o : Obj} : (w.alloc o).heap[w.heap.size]? = some o := by
  simp only [World.alloc, Array.getElem?_push_size]

theorem Inv.newImm {CR : CRel} {base : Nat} {g : G} {σ : Stack} {w : World} (hi : Inv CR base g σ w) (vs : List Value) (cs : Array Value) (el : TypeId)
    (hcs : ∀ (j : Nat) x, vs[j]? = some x → cs[j]? = some x ∧ x.oneCell' = true) :
    Inv CR base (g.addImm w.heap.size vs) σ (w.alloc (.cells cs el)) ∧ Ev g w (g.addImm w.heap.size vs) (w.alloc (.cells cs el)) ∧ (g.addImm w.heap.size vs).row w.heap.size 0 vs := by
  have hle : g.le (g.addImm w.heap.size vs) := ⟨fun l i L e => ⟨L, e, L.le_refl⟩, fun b o v e => by
    have := hi.imm_lt e
    simp only [G.addImm]; rw [if_neg (by omega)]; exact e⟩
  refine ⟨⟨?_, ?_, ?_, ?_, hi.inj, ?_, hi.tot, fun b Q h => let ⟨⟨v, hb⟩, o, ho, hq⟩ := hi.glb b Q h; ⟨⟨v, hle.imm _ _ _ hb⟩, o, (alloc_old (hi.imm_lt hb)).trans ho, hq⟩⟩, ⟨hle, rfl, rfl, rfl, by simp, fun b hb _ => alloc_old hb, fun b hb => .inl hb, ?_⟩, ?_⟩
  · have := hi.ge; simp; omega
  · intro l i L e
    obtain ⟨b, hb, hr⟩ := hi.dom l i L e
    exact ⟨b, hb, hr.mono hle fun x hx => alloc_old (hi.lo l i L x e hx).2⟩
  · intro b o v e
    simp only [G.addImm] at e
    split at e
    · rename_i hb; subst hb
      obtain ⟨h1, h2⟩ := hcs o v e
      exact ⟨by rw [World.cell?_alloc_new]; exact h1, h2⟩
    · obtain ⟨h1, h2⟩ := hi.imm b o v e
      exact ⟨(cell?_congr (alloc_old (hi.imm_lt e))).trans h1, h2⟩
  · intro l i L b e eb o
    have := (hi.lo l i L b e eb).2
    simp only [G.addImm]; rw [if_neg (by omega)]; exact hi.sep l i L b e eb o
  · intro l i L b e eb
    have := hi.lo l i L b e eb
    exact ⟨this.1, by simp; omega⟩
  · intro b o v hv
    simp only [G.addImm] at hv
    split at hv
    · rename_i hb; exact .inr (.inr (by omega))
    · exact .inl hv
  · intro j v hv; simp [G.addImm, hv]

def G.setLoc (g : G) (l i : Nat) (L : Loc) : G := ⟨fun l' i' => if l' = l ∧ i' = i then some L else g.loc l' i', g.imm⟩

theorem G.setLoc_same {g : G} {l i : Nat} {L : Loc} : (g.setLoc l i L).loc l i = some L := by simp [G.setLoc]
theorem G.setLoc_other {g : G} {l i l' i' : Nat} {L : Loc} (h : ¬ (l' = l ∧ i' = i)) : (g.setLoc l i L).loc l' i' = g.loc l' i' := by simp only [G.setLoc]; rw [if_neg h]

theorem G.le_setLoc {g : G} {l i : Nat} {L : Loc} (h : ∀ L0, g.loc l i = some L0 → L0.le L) : g.le (g.setLoc l i L) :=
  ⟨fun l' i' L' e => by
    by_cases c : l' = l ∧ i' = i
    · obtain ⟨rfl, rfl⟩ := c; exact ⟨L, G.setLoc_same, h L' e⟩
    · exact ⟨L', by rw [G.setLoc_other c]; exact e, L'.le_refl⟩, fun _ _ _ e => e⟩

theorem Inv.none_of {CR : CRel} {base : Nat} {g : G} {σ : Stack} {w : World} (hi : Inv CR base g σ w) {l i : Nat} (h : blk? σ l i = none) : g.loc l i = none := by
  cases e : g.loc l i with
  | none => rfl
  | some L => obtain ⟨b, hb, _⟩ := hi.dom l i L e; rw [h] at hb; cases hb

theorem Inv.newCells {CR : CRel} {base : Nat} {g : G} {σ σ' : Stack} {w : World} (hi : Inv CR base g σ w) {l i : Nat} {ds : List D} (hn : newBlk σ (.cells 0 ds) = some (l, i, σ'))
    (vs : List Value) (cs : Array Value) (el : TypeId) (hr : RelL g ds vs) (hlen : vs.length ≤ cs.size)
    (hcs : ∀ (j : Nat) x, vs[j]? = some x → cs[j]? = some x ∧ x.oneCell' = true) :
    Inv CR base (g.setLoc l i (.at w.heap.size 0 0 cs.size)) σ' (w.alloc (.cells cs el)) ∧ Ev g w (g.setLoc l i (.at w.heap.size 0 0 cs.size)) (w.alloc (.cells cs el)) := by
  obtain ⟨h1, h2, h3, _, _⟩ := newBlk_spec hn
  have hnone := hi.none_of h1
  have hle : g.le (g.setLoc l i (.at w.heap.size 0 0 cs.size)) := G.le_setLoc fun L0 e => by rw [hnone] at e; cases e
  refine ⟨hi.turn l i hle h3 (fun l' i' c => G.setLoc_other c) (fun l' i' L b c e eb => alloc_old (hi.lo l' i' L b e eb).2) ?_ ?_ ?_ ?_ (by simp) ⟨_, G.setLoc_same⟩ (fun b v hb => alloc_old (hi.imm_lt hb)), ⟨hle, rfl, rfl, rfl, by simp, fun b hb _ => alloc_old hb, ?_, fun b o v hv => .inl hv⟩⟩
  · intro L e
    rw [G.setLoc_same] at e; cases e
    exact ⟨_, h2, rfl, cs, el, alloc_new, rfl, by rw [hr.length]; omega, vs, hr.mono hle, fun j x hx => by simpa using hcs j x hx⟩
  · intro b o v e
    obtain ⟨h1, h2⟩ := hi.imm b o v e
    exact ⟨(cell?_congr (alloc_old (hi.imm_lt e))).trans h1, h2⟩
  · intro l' i' L b e eb o
    by_cases c : l' = l ∧ i' = i
    · obtain ⟨rfl, rfl⟩ := c
      rw [G.setLoc_same] at e; cases e; cases eb
      cases e' : (g.setLoc l' i' (.at w.heap.size 0 0 cs.size)).imm w.heap.size o with
      | none => rfl
      | some v => have := hi.imm_lt (b := w.heap.size) (o := o) (v := v) e'; omega
    · rw [G.setLoc_other c] at e; exact hi.sep l' i' L b e eb o
  · intro L b e eb
    rw [G.setLoc_same] at e; cases e; cases eb
    refine ⟨hi.ge, by simp, fun l' i' L' c e' eb' => ?_⟩
    have := (hi.lo l' i' L' _ e' eb').2; omega
  · intro b hb
    obtain ⟨l', i', L, e, eb⟩ := hb
    by_cases c : l' = l ∧ i' = i
    · obtain ⟨rfl, rfl⟩ := c
      rw [G.setLoc_same] at e; cases e; cases eb; exact .inr (Nat.le_refl _)
    · rw [G.setLoc_other c] at e; exact .inl ⟨l', i', L, e, eb⟩

theorem Inv.newVirt {CR : CRel} {base : Nat} {g : G} {σ σ' : Stack} {w : World} (hi : Inv CR base g σ w) {l i : Nat} (hn : newBlk σ (.cells 0 []) = some (l, i, σ')) :
    Inv CR base (g.setLoc l i (.virt 0)) σ' w ∧ Ev g w (g.setLoc l i (.virt 0)) w := by
  obtain ⟨h1, h2, h3, _, _⟩ := newBlk_spec hn
  have hnone := hi.none_of h1
  have hle : g.le (g.setLoc l i (.virt 0)) := G.le_setLoc fun L0 e => by rw [hnone] at e; cases e
  refine ⟨hi.turn l i hle h3 (fun l' i' c => G.setLoc_other c) (fun _ _ _ _ _ _ _ => rfl) ?_ hi.imm ?_ ?_ (Nat.le_refl _) ⟨_, G.setLoc_same⟩ (fun _ _ _ => rfl), ⟨hle, rfl, rfl, rfl, Nat.le_refl _, fun _ _ _ => rfl, ?_, fun b o v hv => .inl hv⟩⟩
  · intro L e
    rw [G.setLoc_same] at e; cases e
    exact ⟨_, h2, rfl, rfl⟩
  · intro l' i' L b e eb o
    by_cases c : l' = l ∧ i' = i
    · obtain ⟨rfl, rfl⟩ := c; rw [G.setLoc_same] at e; cases e; cases eb
    · rw [G.setLoc_other c] at e; exact hi.sep l' i' L b e eb o
  · intro L b e eb
    rw [G.setLoc_same] at e; cases e; cases eb
  · intro b hb
    obtain ⟨l', i', L, e, eb⟩ := hb
    by_cases c : l' = l ∧ i' = i
    · obtain ⟨rfl, rfl⟩ := c; rw [G.setLoc_same] at e; cases e; cases eb
    · rw [G.setLoc_other c] at e; exact .inl ⟨l', i', L, e, eb⟩

theorem Inv.setCells {CR : CRel} {base : Nat} {g : G} {σ : Stack} {w w' : World} (hi : Inv CR base g σ w) {l i : Nat} {L0 L : Loc} {b0 : Blk} {v : Nat} {ds : List D}
    (h0 : g.loc l i = some L0) (hb0 : blk? σ l i = some b0) (hL : L0.le L)
    (hrel : RelB CR (g.setLoc l i L) w' (.cells v ds) L)
    (hkept : ∀ b, b < w.heap.size → ¬ L0.owns b → w'.heap[b]? = w.heap[b]?)
    (hos : w'.os = w.os) (htape : w'.tape = w.tape) (hout : w'.output = w.output)
    (hsize : w.heap.size ≤ w'.heap.size)
    (hblk : ∀ b, L.owns b → (L0.owns b ∨ (w.heap.size ≤ b ∧ b < w'.heap.size))) :
    Inv CR base (g.setLoc l i L) (setBlk σ l i (.cells v ds)) w' ∧ Ev g w (g.setLoc l i L) w' := by
  have hle : g.le (g.setLoc l i L) := G.le_setLoc fun L1 e => by rw [h0] at e; cases e; exact hL
  refine ⟨hi.turn l i hle (fun l' i' c => blk?_setBlk_other c) (fun l' i' c => G.setLoc_other c) ?_ ?_ ?_ ?_ ?_ hsize ⟨_, G.setLoc_same⟩ (fun b v hb => hkept b (World.block_lt_of_cell? (a := ⟨b, 0, none⟩) w (hi.imm b 0 v hb).1) fun eb0 => by have h := hi.sep l i L0 b h0 eb0 0; rw [hb] at h; cases h), ⟨hle, hos, htape, hout, hsize, ?_, ?_, fun b o v hv => .inl hv⟩⟩
  · intro l' i' L' b c e eb
    refine hkept b (hi.lo l' i' L' b e eb).2 fun eb0 => c ?_
    have := hi.inj l' i' L' l i L0 b e h0 eb eb0
    exact this
  · intro L1 e
    rw [G.setLoc_same] at e; cases e
    exact ⟨_, blk?_setBlk hb0, hrel⟩
  · intro b o x e
    obtain ⟨h1, h2⟩ := hi.imm b o x e
    refine ⟨(cell?_congr (hkept b (hi.imm_lt e) fun eb0 => ?_)).trans h1, h2⟩
    have := hi.sep l i L0 b h0 eb0 o
    rw [show g.imm b o = some x from e] at this; cases this
  · intro l' i' L' b e eb o
    by_cases c : l' = l ∧ i' = i
    · obtain ⟨rfl, rfl⟩ := c
      rw [G.setLoc_same] at e; cases e
      rcases hblk b eb with h | ⟨h, _⟩
      · exact hi.sep _ _ L0 b h0 h o
      · cases e' : (g.setLoc l' i' L).imm b o with
        | none => rfl
        | some v => have := hi.imm_lt (b := b) (o := o) (v := v) e'; omega
    · rw [G.setLoc_other c] at e; exact hi.sep l' i' L' b e eb o
  · intro L1 b e eb
    rw [G.setLoc_same] at e; cases e
    rcases hblk b eb with h | ⟨h, h'⟩
    · have := hi.lo l i L0 b h0 h
      refine ⟨this.1, by omega, fun l' i' L' c e' eb' => c ?_⟩
      exact hi.inj l' i' L' l i L0 b e' h0 eb' h
    · exact ⟨Nat.le_trans hi.ge h, h', fun l' i' L' c e' eb' => by have := (hi.lo l' i' L' b e' eb').2; omega⟩
  · intro b hb hn
    exact hkept b hb fun e => hn ⟨l, i, L0, h0, e⟩
  · intro b hb
    obtain ⟨l', i', L', e, eb⟩ := hb
    by_cases c : l' = l ∧ i' = i
    · obtain ⟨rfl, rfl⟩ := c
      rw [G.setLoc_same] at e; cases e
      rcases hblk b eb with h | ⟨h, _⟩
      · exact .inl ⟨_, _, L0, h0, h⟩
      · exact .inr h
    · rw [G.setLoc_other c] at e; exact .inl ⟨l', i', L', e, eb⟩

theorem frzL_pure {l n : Nat} : ∀ {ds : List D} {σ : Stack}, D.cleanL ds = true → frz.frzL (frz l (n + 1)) ds σ = (ds, σ)
  | [], σ, h => rfl
  | d :: ds, σ, h => by
    simp only [D.cleanL, Bool.and_eq_true] at h
    have h1 : frz l (n + 1) d σ = (d, σ) := by cases d <;> simp [frz, h.1]
    simp only [frz.frzL, h1, frzL_pure h.2]

theorem sop_stc {e : Env} {σ : Stack} {os : List Nat} {sz : Nat} {X Y : Opd} {r : D × Stack} (h : sop e σ (.stc os sz X Y) = some r) : sop e σ (.st [] sz X Y) = some r := by
  simp only [sop] at h ⊢
  cases hx : opd e X <;> rw [hx] at h <;> try (cases h; done)
  dsimp only at h ⊢
  split at h
  case isFalse => cases h
  split at h
  case h_2 => cases h
  rename_i cs hcs
  split at h
  case h_2 => cases h
  rename_i p hp
  split at h
  case isFalse => cases h
  rename_i hc
  try simp only [hcs]
  try simp only [hp]
  try dsimp only
  rw [if_pos ⟨hc.1, hc.2.1⟩]
  split
  · simpa [nilbs] using h
  · rename_i hn
    rw [show deep = 15 + 1 from rfl, frzL_pure (hc.2.2.resolve_right hn)]
    exact h

end Go.Abs
