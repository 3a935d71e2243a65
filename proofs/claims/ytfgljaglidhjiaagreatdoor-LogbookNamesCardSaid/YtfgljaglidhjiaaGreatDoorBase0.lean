/-
  The abstract interpreter: a small instruction set with values as plain data; what a call answers is a Lean function of it. No model of memory but a stack of segments of blocks. Mine, for every seat.
-/
import GoSem.Core.View
import Derived.Lib.AtoiAll
namespace Go.Abs

inductive D where
  | undef
  | bool (b : Bool)
  | int (k : IntKind) (n : Int)
  | str (s : List UInt8)
  | agg (cs : List D)
  | tup (cs : List D)
  | nilp
  | ref (l i v off : Nat)
  | cref (cs : List D)
  | nils
  | lst (n : Nat) (cs : List D)
  | sl (l i v off n w : Nat)
  | fn (f : Nat) (first cap : List D)
  | nilf
  | yld (l i : Nat)
  | own (s : Nat) (cs : List D)
  | vr (x s off : Nat)
  | ifc (t : Nat) (d : D)
  | nili
  | emp
  deriving Inhabited

mutual
def D.same : D → D → Bool
  | .undef, .undef => true
  | .bool a, .bool b => a == b
  | .int k n, .int k' n' => k == k' && n == n'
  | .str a, .str b => a == b
  | .agg a, .agg b => D.sameL a b
  | .tup a, .tup b => D.sameL a b
  | .nilp, .nilp => true
  | .ref a b c d, .ref a' b' c' d' => a == a' && b == b' && c == c' && d == d'
  | .cref a, .cref b => D.sameL a b
  | .nils, .nils => true
  | .lst n a, .lst m b => n == m && D.sameL a b
  | .sl a b c d e f, .sl a' b' c' d' e' f' => a == a' && b == b' && c == c' && d == d' && e == e' && f == f'
  | .fn f a b, .fn f' a' b' => f == f' && D.sameL a a' && D.sameL b b'
  | .nilf, .nilf => true
  | .yld a b, .yld a' b' => a == a' && b == b'
  | .own s a, .own s' b => s == s' && D.sameL a b
  | .vr a b c, .vr a' b' c' => a == a' && b == b' && c == c'
  | .ifc t a, .ifc t' b => t == t' && D.same a b
  | .nili, .nili => true
  | .emp, .emp => true
  | _, _ => false
def D.sameL : List D → List D → Bool
  | [], [] => true
  | a :: as, b :: bs => D.same a b && D.sameL as bs
  | _, _ => false
end

mutual
theorem same_eq : ∀ {a b : D}, D.same a b = true → a = b
  | .undef, b, h => by cases b <;> simp [D.same] at h; rfl
  | .bool _, b, h => by cases b <;> simp [D.same] at h; rw [h]
  | .int _ _, b, h => by cases b <;> simp [D.same] at h; rw [h.1, h.2]
  | .str _, b, h => by cases b <;> simp [D.same] at h; rw [h]
  | .agg _, b, h => by cases b <;> simp [D.same] at h; rw [sameL_eq h]
  | .tup _, b, h => by cases b <;> simp [D.same] at h; rw [sameL_eq h]
  | .nilp, b, h => by cases b <;> simp [D.same] at h; rfl
  | .ref .., b, h => by cases b <;> simp [D.same] at h; simp [h]
  | .cref _, b, h => by cases b <;> simp [D.same] at h; rw [sameL_eq h]
  | .nils, b, h => by cases b <;> simp [D.same] at h; rfl
  | .lst .., b, h => by cases b <;> simp [D.same] at h; rw [h.1, sameL_eq h.2]
  | .sl .., b, h => by cases b <;> simp [D.same] at h; simp [h]
  | .fn .., b, h => by cases b <;> simp [D.same] at h; rw [h.1.1, sameL_eq h.1.2, sameL_eq h.2]
  | .nilf, b, h => by cases b <;> simp [D.same] at h; rfl
  | .yld .., b, h => by cases b <;> simp [D.same] at h; simp [h]
  | .own .., b, h => by cases b <;> simp [D.same] at h; rw [h.1, sameL_eq h.2]
  | .vr .., b, h => by cases b <;> simp [D.same] at h; simp [h]
  | .ifc _ a, b, h => by cases b <;> simp [D.same] at h; rw [h.1, same_eq h.2]
  | .nili, b, h => by cases b <;> simp [D.same] at h; rfl
  | .emp, b, h => by cases b <;> simp [D.same] at h; rfl
theorem sameL_eq : ∀ {a b : List D}, D.sameL a b = true → a = b
  | [], [], _ => rfl
  | [], _ :: _, h => by simp [D.sameL] at h
  | _ :: _, [], h => by simp [D.sameL] at h
  | a :: as, b :: bs, h => by
    simp only [D.sameL, Bool.and_eq_true] at h
    rw [same_eq h.1, sameL_eq h.2]
end

mutual
theorem same_refl : ∀ (a : D), D.same a a = true
  | .undef => rfl
  | .bool b => by simp [D.same]
  | .int k n => by simp [D.same]
  | .str s => by simp [D.same]
  | .agg a => by simp [D.same, sameL_refl a]
  | .tup a => by simp [D.same, sameL_refl a]
  | .nilp => rfl
  | .ref .. => by simp [D.same]
  | .cref a => by simp [D.same, sameL_refl a]
  | .nils => rfl
  | .lst n a => by simp [D.same, sameL_refl a]
  | .sl .. => by simp [D.same]
  | .fn f a b => by simp [D.same, sameL_refl a, sameL_refl b]
  | .nilf => rfl
  | .yld .. => by simp [D.same]
  | .own s a => by simp [D.same, sameL_refl a]
  | .vr .. => by simp [D.same]
  | .ifc t a => by simp [D.same, same_refl a]
  | .nili => rfl
  | .emp => rfl
theorem sameL_refl : ∀ (a : List D), D.sameL a a = true
  | [] => rfl
  | a :: as => by simp [D.sameL, same_refl a, sameL_refl as]
end

instance : DecidableEq D := fun a b => if h : D.same a b = true then isTrue (same_eq h) else isFalse fun e => h (e ▸ same_refl a)

inductive Opd where
  | t (n : Nat)
  | c (d : D)
  deriving Inhabited, DecidableEq

inductive Pu where
  | slen
  | sidx
  | scat
  | ssub (lo hi : Bool)
  | seq (neg : Bool)
  deriving Inhabited, DecidableEq

def puD : Pu → List D → Option D
  | .slen, [.str s] => some (.int .i64 s.length)
  | .sidx, [.str s, .int _ i] => if 0 ≤ i then (s[i.toNat]?).map fun b => .int .u8 b.toNat else none
  | .scat, [.str a, .str b] => if a.length + b.length ≤ 4611686018427387904 then some (.str (a ++ b)) else none
  | .ssub true true, [.str s, .int _ i, .int _ j] => if 0 ≤ i ∧ i ≤ j ∧ j ≤ s.length then some (.str ((s.drop i.toNat).take (j.toNat - i.toNat))) else none
  | .ssub true false, [.str s, .int _ i] => if 0 ≤ i ∧ i ≤ s.length then some (.str (s.drop i.toNat)) else none
  | .ssub false true, [.str s, .int _ j] => if 0 ≤ j ∧ j ≤ s.length then some (.str (s.take j.toNat)) else none
  | .ssub false false, [.str s] => some (.str s)
  | .seq neg, [.str a, .str b] => some (.bool (if neg then !(a == b) else a == b))
  | _, _ => none

abbrev Ky := Option (Bool × List (Option IntKind))

inductive Mo where
  | make
  | bld (t e : Nat)
  | get (ky : Ky) (zero : D) (ok : Bool)
  | put (ky : Ky)
  | len
  | rng
  | ent
  deriving Inhabited, DecidableEq

inductive Me where
  | b2s
  | s2b
  | s2a (n w : Nat)
  | peq (neg : Bool)
  deriving Inhabited, DecidableEq

inductive K where
  | mv (x : Opd)
  | nilb (w : Nat)
  | pick (c a b : Opd)
  | alc (nb : List (Nat × Nat)) (cs : List D)
  | alcv (nb : List (Nat × Nat)) (cs : List D)
  | boxi (x : Opd)
  | boxm (x : Opd)
  | bxn (nb : List (Nat × Nat)) (x : Opd)
  | boxv (x : Opd)
  | bld (zero : List D) (parts : List (Nat × Nat × Opd))
  | bsi (n w : Nat) (zero : List D) (parts : List (Nat × Nat × Opd))
  | bsm (n w : Nat) (zero : List D) (parts : List (Nat × Nat × Opd))
  | ld (ag : Bool) (sz : Nat) (a : Opd)
  | ldi (ag : Bool) (sz : Nat) (a : Opd)
  | ld0 (ag : Bool) (sz : Nat) (a : Opd)
  | isn (ps neg : Bool) (x : Opd)
  | nck (x : Opd)
  | st (nb : List (Nat × Nat)) (sz : Nat) (a x : Opd)
  | stc (os : List Nat) (sz : Nat) (a x : Opd)
  | ldv (v : Nat) (ag : Bool) (sz : Nat) (a : Nat)
  | stv (v : Nat) (nb : List (Nat × Nat)) (sz : Nat) (a : Nat) (x : Opd)
  | bin (o : BinOp) (x y : Opd)
  | eqv (ag : Bool) (ks : List (Option IntKind)) (neg : Bool) (x y : Opd)
  | un (o : UnOp) (x : Opd)
  | cvt (k : IntKind) (x : Opd)
  | mkf (f : Nat) (first cap : List Opd)
  | mks (w bytes : Nat) (zero : List D) (l c : Opd)
  | slc (w : Nat) (x : Opd) (lo hi mx : Option Opd)
  | slca (len w : Nat) (x : Opd) (lo hi : Option Opd)
  | fadr (off : Nat) (x : Opd)
  | fld (ag : Bool) (off sz : Nat) (x : Opd)
  | idxA (len w : Nat) (x i : Opd)
  | idxS (w : Nat) (x i : Opd)
  | idxV (ag : Bool) (len w : Nat) (x i : Opd)
  | lenS (x : Opd)
  | lenC (n : Nat)
  | mn (x y : Opd)
  | mx (x y : Opd)
  | app (w bytes : Nat) (s x : Opd)
  | apc (os : List Nat) (w bytes : Nat) (s x : Opd)
  | apz (w bytes : Nat) (s x : Opd)
  | cpi (w bytes : Nat) (x : Opd)
  | cvz (x : Opd)
  | bse
  | ape (w bytes v : Nat) (x : Opd)
  | ext (x : Opd) (i : Nat)
  | pur (o : Pu) (xs : List Opd)
  | mp (o : Mo) (xs : List Opd)
  | me (o : Me) (xs : List Opd)
  | mki (t : Nat) (x : Opd)
  | tas (t : Nat) (zero : Option D) (x : Opd)
  | isi (neg : Bool) (x : Opd)
  | pan (x : Opd)
  | rcv
  | call (kp : Bool) (f : Opd) (args : List Opd)
  deriving Inhabited, DecidableEq

structure Op where
  dst : Option Nat
  grd : Option (Nat × Bool)
  ntr : Bool
  k : K
  deriving Inhabited, DecidableEq

inductive Cmd where
  | nop
  | frz (vs : List Nat)
  | reg (live : List Nat) (ops : List Op)
  | seq (a b : Cmd)
  | ite (c : Opd) (a b : Cmd)
  | blk (id : Nat) (a : Cmd)
  | loop (live : List Nat) (seg : Bool) (a : Cmd)
  | rngf (live : List Nat) (f : Opd) (params : List Nat) (asg body : Cmd)
  | mloop (live : List Nat) (it : Opd) (nx ok b : Nat) (a rest : Cmd)
  | treg (live : List Nat) (pre : List Op) (op : Op) (post : List Op)
  | dfr (f : Opd) (args : List Opd) (rest : Cmd)
  | exit (id : Nat)
  | ret
  deriving Inhabited, DecidableEq

inductive Exit where
  | normal
  | exit (id : Nat)
  | ret
  | thr (d : D)
  deriving Inhabited, DecidableEq

abbrev Env := List (Nat × D)

def get : Env → Nat → D
  | [], _ => .undef
  | (k, v) :: r, t => if k = t then v else get r t

def put (d : Option Nat) (v : D) (e : Env) : Env :=
  match d with
  | some t => (t, v) :: e
  | none => e

def D.calm : D → D
  | .vr .. => .undef
  | .emp => .undef
  | .own _ cs => .own 0 cs
  | d => d

def D.strip : D → D
  | .vr .. => .undef
  | .emp => .undef
  | .own .. => .undef
  | d => d

def restrict (live : List Nat) (e : Env) : Env := live.map fun t => (t, (get e t).calm)

def keys (e : Env) : List Nat := (e.map (·.1)).eraseDups

def strips (live : List Nat) (e : Env) : Env := live.map fun t => (t, (get e t).strip)

def liveAt (live : List Nat) (x : Exit) (e : Env) : List Nat :=
  match x with
  | .normal => live
  | _ => keys e

structure LoopSt where
  state : Nat
  pend : Option Exit
  env : Env
  params : List Nat
  asg : Cmd
  body : Cmd
  deriving DecidableEq

inductive Blk where
  | cells (v : Nat) (cs : List D)
  | dead
  | loop (l : LoopSt)
  deriving DecidableEq

abbrev Stack := List (List Blk)

def seg? : Stack → Nat → Option (List Blk)
  | [], _ => none
  | s :: σ, l => if σ.length = l then some s else seg? σ l

def setSeg : Stack → Nat → List Blk → Stack
  | [], _, _ => []
  | s :: σ, l, s' => if σ.length = l then s' :: σ else s :: setSeg σ l s'

def blk? (σ : Stack) (l i : Nat) : Option Blk := (seg? σ l).bind (·[i]?)

def setBlk (σ : Stack) (l i : Nat) (b : Blk) : Stack :=
  match seg? σ l with
  | some s => setSeg σ l (s.set i b)
  | none => σ

def cells? (σ : Stack) (l i v : Nat) : Option (List D) :=
  match blk? σ l i with
  | some (.cells v' cs) => if v' = v then some cs else none
  | _ => none

def newBlk (σ : Stack) (b : Blk) : Option (Nat × Nat × Stack) :=
  match σ with
  | [] => none
  | s :: σ' => some (σ'.length, s.length, (s ++ [b]) :: σ')

mutual
def D.clean : D → Bool
  | .ref .. => false
  | .sl .. => false
  | .yld .. => false
  | .vr .. => true
  | .emp => true
  | .own _ cs => D.cleanL cs
  | .agg cs => D.cleanL cs
  | .tup cs => D.cleanL cs
  | .cref cs => D.cleanL cs
  | .lst _ cs => D.cleanL cs
  | .fn _ a b => D.cleanL a && D.cleanL b
  | .undef => true
  | .bool _ => true
  | .int _ _ => true
  | .str _ => true
  | .nilp => true
  | .nils => true
  | .nilf => true
  | .ifc _ d => D.clean d
  | .nili => true
def D.cleanL : List D → Bool
  | [] => true
  | d :: ds => D.clean d && D.cleanL ds
end

def frz (l : Nat) : Nat → D → Stack → D × Stack
  | 0, _, σ => (.undef, σ)
  | n + 1, d, σ =>
    if d.clean then (d, σ) else
    match d with
    | .agg cs => let r := frzL (frz l n) cs σ; (.agg r.1, r.2)
    | .tup cs => let r := frzL (frz l n) cs σ; (.tup r.1, r.2)
    | .cref cs => let r := frzL (frz l n) cs σ; (.cref r.1, r.2)
    | .lst m cs => let r := frzL (frz l n) cs σ; (.lst m r.1, r.2)
    | .own s cs => let r := frzL (frz l n) cs σ; (.own s r.1, r.2)
    | .fn f a b => let r := frzL (frz l n) a σ; let r' := frzL (frz l n) b r.2; (.fn f r.1 r'.1, r'.2)
    | .ref l' i v off => if l' ≤ l then (.ref l' i v off, σ) else (.undef, σ)
    | .yld l' i => if l' ≤ l then (.yld l' i, σ) else (.undef, σ)
    | .sl l' i v off m w =>
      if l' ≤ l then (.sl l' i v off m w, σ) else
      match cells? σ l' i v with
      | some cs => let r := frzL (frz l n) ((cs.drop off).take (m * w)) (setBlk σ l' i .dead); (.lst m r.1, r.2)
      | none => (.undef, σ)
    | _ => (.undef, σ)
where
  frzL (f : D → Stack → D × Stack) : List D → Stack → List D × Stack
    | [], σ => ([], σ)
    | d :: ds, σ => let r := f d σ; let r' := frzL f ds r.2; (r.1 :: r'.1, r'.2)

def deep : Nat := 16

def frzE (l : Nat) : Env → Stack → Env × Stack
  | [], σ => ([], σ)
  | (t, d) :: e, σ => let r := frz l deep d σ; let r' := frzE l e r.2; ((t, r.1) :: r'.1, r'.2)

inductive Q where
  | call (kp : Bool) (f : Nat) (args : List D) (σ : Stack)
  | loop (live : List Nat) (seg : Bool) (c : Cmd) (env : Env) (σ : Stack)
  | round (l i : Nat) (args : List D) (σ : Stack)
  | mloop (live : List Nat) (it : Opd) (nx ok b : Nat) (c rest : Cmd) (env : Env) (σ : Stack)
  | dcall (f : Nat) (args : List D) (th : Option D) (σ : Stack)

inductive R where
  | val (d : D) (σ : Stack)
  | ctl (e : Exit) (env : Env) (σ : Stack)
  | thr (d : D) (σ : Stack)
  deriving DecidableEq

abbrev Oracle := Q → Option R

def opd (e : Env) : Opd → D
  | .t n => (get e n).strip
  | .c d => d

def D.cells : D → Option (List D)
  | .agg cs => some cs
  | .undef => none
  | .tup _ => none
  | .own .. => none
  | .vr .. => none
  | .emp => none
  | d => some [d]

def D.row (ag : Bool) (d : D) : Option (List D) :=
  match ag, d with
  | true, .agg cs => some cs
  | true, _ => none
  | false, .agg _ => none
  | false, d => d.cells

def fillD (e : Env) : List (Nat × Nat × Opd) → List D → Option (List D)
  | [], cs => some cs
  | (off, sz, x) :: r, cs =>
    match (opd e x).cells with
    | some p => if p.length = sz ∧ off + sz ≤ cs.length then fillD e r (cs.take off ++ p ++ cs.drop (off + sz)) else none
    | none => none

def eqK : List (Option IntKind) → List D → List D → Option Bool
  | [], [], [] => some true
  | some k :: ks, .int k1 a :: x, .int k2 b :: y => if k1 = k ∧ k2 = k then (eqK ks x y).map (a == b && ·) else none
  | none :: ks, .bool a :: x, .bool b :: y => (eqK ks x y).map (a == b && ·)
  | _, _, _ => none

def binD (o : BinOp) : D → D → Option D
  | .int k a, .int k' b =>
    match o with
    | .shl => if b < 0 then none else some (.int k (k.wrap (a * 2 ^ (min b.toNat k.bits))))
    | .shr => if b < 0 then none else some (.int k (a.fdiv (2 ^ (min b.toNat k.bits))))
    | .add => if k = k' then some (.int k (k.wrap (a + b))) else none
    | .sub => if k = k' then some (.int k (k.wrap (a - b))) else none
    | .mul => if k = k' then some (.int k (k.wrap (a * b))) else none
    | .quo => if k = k' ∧ b ≠ 0 then some (.int k (k.wrap (a.tdiv b))) else none
    | .rem => if k = k' ∧ b ≠ 0 then some (.int k (a.tmod b)) else none
    | .and => if k = k' then some (.int k (k.wrap ((BitVec.ofInt k.bits a &&& BitVec.ofInt k.bits b).toNat : Int))) else none
    | .or => if k = k' then some (.int k (k.wrap ((BitVec.ofInt k.bits a ||| BitVec.ofInt k.bits b).toNat : Int))) else none
    | .xor => if k = k' then some (.int k (k.wrap ((BitVec.ofInt k.bits a ^^^ BitVec.ofInt k.bits b).toNat : Int))) else none
    | .andNot => none
    | .eql => if k = k' then some (.bool (a == b)) else none
    | .neq => if k = k' then some (.bool (a != b)) else none
    | .lss => if k = k' then some (.bool (decide (a < b))) else none
    | .leq => if k = k' then some (.bool (decide (a ≤ b))) else none
    | .gtr => if k = k' then some (.bool (decide (a > b))) else none
    | .geq => if k = k' then some (.bool (decide (a ≥ b))) else none
  | _, _ => none

def intD : D → Option Int
  | .int _ n => some n
  | _ => none

def bnd (e : Env) (m : Nat) (dfl : Option Nat) : Option Opd → Option Nat
  | some x => match intD (opd e x) with
    | some n => if 0 ≤ n ∧ n ≤ m then some n.toNat else none
    | none => none
  | none => dfl

def bounds (len : Nat) (e : Env) (lo hi mx : Option Opd) : Option (Nat × Nat) :=
  (bnd e len (some len) mx).bind fun m => (bnd e m (if mx.isSome then none else some len) hi).bind fun h => (bnd e h (some 0) lo).map fun l => (l, h)

def keyQ (ky : Ky) (a b : D) : Option Bool :=
  match ky with
  | none => match a, b with
    | .str x, .str y => some (x == y)
    | _, _ => none
  | some (ag, ks) => match a.row ag, b.row ag with
    | some p, some q => eqK ks p q
    | _, _ => none

def findK (ky : Ky) (k : D) : List D → Option (Option (Nat × D))
  | [] => some none
  | .tup [k', v] :: es =>
    match keyQ ky k k' with
    | some true => some (some (0, v))
    | some false => (findK ky k es).map fun x => x.map fun y => (y.1 + 1, y.2)
    | none => none
  | _ => none

def mapD (σ : Stack) : D → Option (Nat × Nat × List D)
  | .yld l i => (cells? σ l i 0).map fun es => (l, i, es)
  | _ => none

def mpD (σ : Stack) : Mo → List D → Option (D × Stack)
  | .make, [] => (newBlk σ (.cells 0 [])).map fun x => (.yld x.1 x.2.1, x.2.2)
  | .bld t e, [] => (newBlk σ (.cells 2 [.int .i64 (t : Nat), .int .i64 (e : Nat), .str []])).map fun x => (.yld x.1 x.2.1, x.2.2)
  | .get ky zero ok, [m, k] =>
    match mapD σ m with
    | some (_, _, es) =>
      if (keyQ ky k k).isSome then
        match findK ky k es with
        | some (some (_, v)) => some (if ok then .tup [v, .bool true] else v, σ)
        | some none => some (if ok then .tup [zero, .bool false] else zero, σ)
        | none => none
      else none
    | none => none
  | .put ky, [m, k, v] =>
    match mapD σ m with
    | some (l, i, es) =>
      if (keyQ ky k k).isSome ∧ (l + 1 = σ.length ∨ (k.clean ∧ v.clean)) then
        match findK ky k es with
        | some (some (j, _)) => some (.undef, setBlk σ l i (.cells 0 (es.set j (.tup [k, v]))))
        | some none => some (.undef, setBlk σ l i (.cells 0 (es ++ [.tup [k, v]])))
        | none => none
      else none
    | none => none
  | .len, [m] => (mapD σ m).map fun x => (.int .i64 x.2.2.length, σ)
  | .rng, [m] =>
    match mapD σ m with
    | some (lm, im, es) => (newBlk σ (.cells 1 [.yld lm im, .int .i64 es.length])).map fun x => (.yld x.1 x.2.1, x.2.2)
    | none => none
  | .ent, [.yld l i] =>
    match cells? σ l i 1 with
    | some (m :: .int .i64 n :: .int .i64 j :: _) =>
      match mapD σ m with
      | some (_, _, es) => if (es.length : Int) = n then
          match es[j.toNat]? with
          | some (.tup [k, v]) => some (.tup [k, v], σ)
          | _ => none
        else none
      | none => none
    | _ => none
  | _, _ => none

def strCells (s : List UInt8) : List D := s.map fun b => .int .u8 b.toNat

def elems (σ : Stack) (w : Nat) : D → Option (Nat × List D)
  | .nils => some (0, [])
  | .str s => if w = 1 then some (s.length, strCells s) else none
  | .lst n cs => if cs.length = n * w then some (n, cs) else none
  | .sl l i v off n w' =>
    if w' = w then
      match cells? σ l i v with
      | some cs => if off + n * w ≤ cs.length then some (n, (cs.drop off).take (n * w)) else none
      | none => none
    else none
  | _ => none

def bytesD : List D → Option (List UInt8)
  | [] => some []
  | .int .u8 n :: r => (bytesD r).map (UInt8.ofNat n.toNat :: ·)
  | _ => none
def meD (σ : Stack) : Me → List D → Option (D × Stack)
  | .b2s, [.str _] => none
  | .b2s, [x] => (elems σ 1 x).bind fun r => (bytesD r.2).map fun s => (.str s, σ)
  | .s2b, [.str s] => some (.lst s.length (strCells s), σ)
  | .s2a n w, [.lst m cs] => if 0 < n ∧ n ≤ m then some (.cref (cs.take (n * w)), σ) else none
  | .peq neg, [.ref l i v o, .ref l' i' v' o'] => if l = l' ∧ i = i' ∧ o = o' ∧ v = v' ∧ (cells? σ l i v).isSome then some (.bool (!neg), σ) else none
  | _, _ => none

def room : Nat := 2 ^ 46

def nilbs : List (Nat × Nat) → List D → Stack → Option (List D × Stack)
  | [], cs, σ => some (cs, σ)
  | (p, w) :: r, cs, σ =>
    match cs[p]? with
    | some .nils => do
      let (l, i, σ') ← newBlk σ (.cells 0 [])
      nilbs r (cs.set p (.sl l i 0 0 0 w)) σ'
    | _ => nilbs r cs σ

def inVar (e : Env) (v a : Nat) : Option (Nat × List D × Nat) :=
  match get e v with
  | .own s cs =>
    if a = v then some (s, cs, 0) else
    match get e a with
    | .vr x s' off => if x = v ∧ s' = s then some (s, cs, off) else none
    | _ => none
  | _ => none

def stamp (e : Env) (v : Nat) : Nat :=
  match get e v with
  | .own s _ => s + 1
  | _ => 0

def rdD (σ : Stack) : D → Option (List D)
  | .cref cs => some cs
  | .ref l i v off => (cells? σ l i v).map (·.drop off)
  | _ => none

def rd0 (σ : Stack) : D → Option (List D)
  | .ref l i 0 off => rdD σ (.ref l i 0 off)
  | _ => none

def isnD (ps : Bool) (d : D) : Option Bool :=
  match ps, d with
  | true, .nilp => some true
  | true, .cref _ => some false
  | true, .ref .. => some false
  | false, .nils => some true
  | false, .lst n _ => if n = 0 then none else some false
  | false, .sl _ _ _ _ n _ => if n = 0 then none else some false
  | _, _ => none

def tasD (t : Nat) (z : Option D) : D → Option D
  | .ifc t' d => match z with
    | some z => some (if t' = t then .tup [d, .bool true] else .tup [z, .bool false])
    | none => if t' = t then some d else none
  | .nili => z.map fun z => .tup [z, .bool false]
  | _ => none
def isiD : D → Option Bool
  | .nili => some true
  | .ifc .. => some false
  | _ => none

def D.off (l i : Nat) : D → Bool
  | .ref l' i' _ _ => decide (¬ (l' = l ∧ i' = i))
  | _ => true

def appD (e : Env) (σ : Stack) (w bytes : Nat) (s x : Opd) : Option (D × Stack) := do
    let (m, xs) ← elems σ w (opd e x)
    match opd e s with
    | .nils =>
      if m * bytes ≤ room then
        if m = 0 then some (.lst 0 [], σ) else do
        let (l, i, σ') ← newBlk σ (.cells 0 xs)
        some (.sl l i 0 0 m w, σ')
      else none
    | .sl l i v off n w' =>
      match cells? σ l i v with
      | some cs =>
        if w' = w ∧ off + n * w ≤ cs.length ∧ (n + m) * bytes ≤ room then
          if l + 1 = σ.length then
            some (.sl l i (v + 1) 0 (n + m) w, setBlk σ l i (.cells (v + 1) ((cs.drop off).take (n * w) ++ xs)))
          else
            let r := frz.frzL (frz l deep) xs σ
            some (.sl l i (v + 1) 0 (n + m) w, setBlk r.2 l i (.cells (v + 1) ((cs.drop off).take (n * w) ++ r.1)))
        else none
      | none => none
    | _ => none

def sop (e : Env) (σ : Stack) : K → Option (D × Stack)
  | .mv x => some (opd e x, σ)
  | .nilb w => do
    let (l, i, σ') ← newBlk σ (.cells 0 [])
    some (.sl l i 0 0 0 w, σ')
  | .pick c a b =>
    match opd e c with
    | .bool t => some (if t then opd e a else opd e b, σ)
    | _ => none
  | .alc nb cs => do
    let (cs', σ1) ← nilbs nb cs σ
    let (l, i, σ') ← newBlk σ1 (.cells 0 cs')
    some (.ref l i 0 0, σ')
  | .boxi x => (opd e x).cells.map fun cs => (.cref cs, σ)
  | .boxm x => do
    let cs ← (opd e x).cells
    let (l, i, σ') ← newBlk σ (.cells 0 cs)
    some (.ref l i 0 0, σ')
  | .bxn nb x => do
    let cs ← (opd e x).cells
    let (cs', σ1) ← nilbs nb cs σ
    let (l, i, σ') ← newBlk σ1 (.cells 0 cs')
    some (.ref l i 0 0, σ')
  | .alcv .. => none
  | .boxv _ => none
  | .stv .. => none
  | .ldv v ag sz a =>
    match inVar e v a with
    | some (_, cs, off) =>
      let cs := cs.drop off
      if sz ≤ cs.length then
        if ag then some (.agg (cs.take sz), σ) else
        match cs with
        | d :: _ => some (d, σ)
        | [] => none
      else none
    | none => none
  | .bld zero parts => do
    let cs ← fillD e parts zero
    some (.agg cs, σ)
  | .bsi n _ zero parts => do
    let cs ← fillD e parts zero
    some (.lst n cs, σ)
  | .bsm n w zero parts => do
    let cs ← fillD e parts zero
    let (l, i, σ') ← newBlk σ (.cells 0 cs)
    some (.sl l i 0 0 n w, σ')
  | .ld ag sz a =>
    match rdD σ (opd e a) with
    | some cs =>
      if sz ≤ cs.length then
        if ag then some (.agg (cs.take sz), σ) else
        match cs with
        | d :: _ => some (d, σ)
        | [] => none
      else none
    | none => none
  | .ld0 ag sz a =>
    match rd0 σ (opd e a) with
    | some cs =>
      if sz ≤ cs.length then
        if ag then some (.agg (cs.take sz), σ) else
        match cs with
        | d :: _ => some (d, σ)
        | [] => none
      else none
    | none => none
  | .ldi ag sz a =>
    match opd e a with
    | .cref cs =>
      if sz ≤ cs.length then
        if ag then some (.agg (cs.take sz), σ) else
        match cs with
        | d :: _ => some (d, σ)
        | [] => none
      else none
    | _ => none
  | .isn ps neg x => (isnD ps (opd e x)).map fun b => (.bool (if neg then !b else b), σ)
  | .nck x =>
    match opd e x with
    | .cref cs => some (.cref cs, σ)
    | .ref l i v off => some (.ref l i v off, σ)
    | _ => none
  | .st nb sz a x =>
    match opd e a with
    | .ref l i v off =>
      match cells? σ l i v with
      | some cs =>
        match (opd e x).cells with
        | some p =>
          if p.length = sz ∧ off + sz ≤ cs.length then
            if l + 1 = σ.length then
              match nilbs nb p σ with
              | some (p', σ1) => some (.undef, setBlk σ1 l i (.cells v (cs.take off ++ p' ++ cs.drop (off + sz))))
              | none => none
            else
              let r := frz.frzL (frz l deep) p σ
              some (.undef, setBlk r.2 l i (.cells v (cs.take off ++ r.1 ++ cs.drop (off + sz))))
          else none
        | none => none
      | none => none
    | _ => none
  | .stc os sz a x =>
    match opd e a with
    | .ref l i v off =>
      if (os.all fun t => D.off l i (get e t)) = true then
        match cells? σ l i v with
        | some cs =>
          match (opd e x).cells with
          | some p =>
            if p.length = sz ∧ off + sz ≤ cs.length ∧ (D.cleanL p = true ∨ l + 1 = σ.length) then some (.undef, setBlk σ l i (.cells v (cs.take off ++ p ++ cs.drop (off + sz)))) else none
          | none => none
        | none => none
      else none
    | _ => none
  | .bin o x y => (binD o (opd e x) (opd e y)).map (·, σ)
  | .eqv ag ks neg x y =>
    match (opd e x).row ag, (opd e y).row ag with
    | some p, some q => (eqK ks p q).map fun b => (.bool (if neg then !b else b), σ)
    | _, _ => none
  | .un o x =>
    match o, opd e x with
    | .not, .bool b => some (.bool !b, σ)
    | .neg, .int k n => some (.int k (k.wrap (0 - n)), σ)
    | .xor, .int k n => some (.int k (k.wrap ((BitVec.ofInt k.bits (if k.signed then -1 else k.max) ^^^ BitVec.ofInt k.bits n).toNat : Int)), σ)
    | _, _ => none
  | .cvt k x =>
    match opd e x with
    | .int _ n => some (.int k (k.wrap n), σ)
    | _ => none
  | .mkf f first cap => some (.fn f (first.map (opd e)) (cap.map (opd e)), σ)
  | .mks w bytes zero l c =>
    match opd e l, opd e c with
    | .int .i64 n, .int .i64 m =>
      if 0 ≤ n ∧ n = m ∧ n * bytes ≤ (room : Int) ∧ zero.length = w then do
        let (l, i, σ') ← newBlk σ (.cells 0 ((List.range n.toNat).flatMap fun _ => zero))
        some (.sl l i 0 0 n.toNat w, σ')
      else none
    | _, _ => none
  | .slc w x lo hi mx =>
    match opd e x with
    | .lst n cs => (bounds n e lo hi mx).map fun b => (.lst (b.2 - b.1) ((cs.drop (b.1 * w)).take ((b.2 - b.1) * w)), σ)
    | .sl l i v off n w' => if w' = w then (bounds n e lo hi mx).map fun b => (.sl l i v (off + b.1 * w) (b.2 - b.1) w, σ) else none
    | .nils => (bounds 0 e lo hi mx).map fun _ => (.nils, σ)
    | _ => none
  | .slca len w x lo hi =>
    match opd e x with
    | .cref cs => (bounds len e lo hi none).map fun b => (.lst (b.2 - b.1) ((cs.drop (b.1 * w)).take ((b.2 - b.1) * w)), σ)
    | .ref l i v off =>
      match cells? σ l i v with
      | some cs => if len ≤ 1000000 ∧ off + len * w ≤ cs.length then (bounds len e lo hi none).map fun b => (.sl l i v (off + b.1 * w) (b.2 - b.1) w, σ) else none
      | none => none
    | _ => none
  | .fadr off x =>
    match x with
    | .t n =>
      match get e n with
      | .cref cs => some (.cref (cs.drop off), σ)
      | .ref l i v o => some (.ref l i v (o + off), σ)
      | .own s _ => some (.vr n s off, σ)
      | .vr v s o => some (.vr v s (o + off), σ)
      | _ => none
    | .c _ => none
  | .fld ag off sz x =>
    match opd e x with
    | .agg cs =>
      if off + sz ≤ cs.length then
        if ag then some (.agg ((cs.drop off).take sz), σ) else (cs[off]?).map (·, σ)
      else none
    | _ => none
  | .idxA len w x i =>
    match x, intD (opd e i) with
    | .t m, some n =>
      if 0 ≤ n ∧ n < len then
        match get e m with
        | .cref cs => some (.cref ((cs.drop (n.toNat * w)).take w), σ)
        | .ref l j v off => some (.ref l j v (off + n.toNat * w), σ)
        | .own s _ => some (.vr m s (n.toNat * w), σ)
        | .vr v s o => some (.vr v s (o + n.toNat * w), σ)
        | _ => none
      else none
    | _, _ => none
  | .idxS w x i =>
    match opd e x, intD (opd e i) with
    | .lst m cs, some n => if 0 ≤ n ∧ n < m then some (.cref ((cs.drop (n.toNat * w)).take w), σ) else none
    | .sl l j v off m w', some n => if 0 ≤ n ∧ n < m ∧ w' = w then some (.ref l j v (off + n.toNat * w), σ) else none
    | _, _ => none
  | .idxV ag len w x i =>
    match opd e x, intD (opd e i) with
    | .agg cs, some n =>
      if 0 ≤ n ∧ n < len ∧ (n.toNat + 1) * w ≤ cs.length then
        if ag then some (.agg ((cs.drop (n.toNat * w)).take w), σ) else (cs[n.toNat * w]?).map (·, σ)
      else none
    | _, _ => none
  | .lenS x =>
    match opd e x with
    | .nils => some (.int .i64 0, σ)
    | .lst n _ => some (.int .i64 n, σ)
    | .sl _ _ _ _ n _ => some (.int .i64 n, σ)
    | _ => none
  | .lenC n => some (.int .i64 n, σ)
  | .mn x y =>
    match opd e x, opd e y with
    | .int k a, .int _ b => some (.int k (min a b), σ)
    | _, _ => none
  | .mx x y =>
    match opd e x, opd e y with
    | .int k a, .int _ b => some (.int k (max a b), σ)
    | _, _ => none
  | .app w bytes s x => do
    let (m, xs) ← elems σ w (opd e x)
    match opd e s with
    | .nils =>
      if m * bytes ≤ room then
        if m = 0 then some (.lst 0 [], σ) else do
        let (l, i, σ') ← newBlk σ (.cells 0 xs)
        some (.sl l i 0 0 m w, σ')
      else none
    | .sl l i v off n w' =>
      match cells? σ l i v with
      | some cs =>
        if w' = w ∧ off + n * w ≤ cs.length ∧ (n + m) * bytes ≤ room then
          if l + 1 = σ.length then
            some (.sl l i (v + 1) 0 (n + m) w, setBlk σ l i (.cells (v + 1) ((cs.drop off).take (n * w) ++ xs)))
          else
            let r := frz.frzL (frz l deep) xs σ
            some (.sl l i (v + 1) 0 (n + m) w, setBlk r.2 l i (.cells (v + 1) ((cs.drop off).take (n * w) ++ r.1)))
        else none
      | none => none
    | _ => none
  | .apc os w bytes s x =>
    match opd e s with
    | .sl l i _ _ _ _ => if (os.all fun t => D.off l i (get e t)) = true then (elems σ w (opd e x)).bind fun r => if D.cleanL r.2 = true then appD e σ w bytes s x else none else none
    | _ => none
  | .apz w bytes s x => (appD e σ w bytes s x).map fun r => frz 0 deep r.1 r.2
  | .cpi w bytes x => do
    let (m, xs) ← elems σ w (opd e x)
    if m * bytes ≤ room then some (.lst m xs, σ) else none
  | .cvz x =>
    match opd e x with
    | .sl l i v off n w =>
      if 0 < n then
        match cells? σ l i v with
        | some cs => some (.lst n ((cs.drop off).take (n * w)), setBlk σ l i .dead)
        | none => none
      else none
    | _ => none
  | .bse => some (.emp, σ)
  | .ape w bytes v x =>
    match get e v with
    | .emp => (elems σ w (opd e x)).bind fun r => if r.1 * bytes ≤ room then some (.lst r.1 r.2, σ) else none
    | _ => none
  | .ext x i =>
    match opd e x with
    | .tup ds => (ds[i]?).map (·, σ)
    | _ => none
  | .pur o xs => (puD o (xs.map (opd e))).map (·, σ)
  | .mp o xs => mpD σ o (xs.map (opd e))
  | .me o xs => meD σ o (xs.map (opd e))
  | .mki t x => some (.ifc t (opd e x), σ)
  | .tas t z x => (tasD t z (opd e x)).map (·, σ)
  | .isi neg x => (isiD (opd e x)).map fun b => (.bool (if neg then !b else b), σ)
  | .pan _ => none
  | .rcv => none
  | .call _ _ _ => none

def R.vals : Option R → Option (D × Stack)
  | some (.val d σ) => some (d, σ)
  | _ => none

def R.ctls : Option R → Option (Exit × Env × Stack)
  | some (.ctl e env σ) => some (e, env, σ)
  | _ => none

def callv (O : Oracle) (kp : Bool) (fv : D) (args : List D) (σ : Stack) : Option (D × Stack) :=
  match fv with
  | .fn f first cap => R.vals (O (.call kp f (first ++ args ++ cap) σ))
  | .yld l i => R.vals (O (.round l i args σ))
  | _ => none

def callf (O : Oracle) (fv : D) (args : List D) (σ : Stack) : Option (D × Stack) :=
  match fv with
  | .fn f first cap => R.vals (O (.call false f (first ++ args ++ cap) σ))
  | _ => none

def aop (O : Oracle) (op : Op) (e : Env) (σ : Stack) : Option (Env × Stack) :=
  match op.k with
  | .call kp f args =>
    match callv O kp (opd e f) (args.map (opd e)) σ with
    | some (d, σ') => if op.ntr = true → σ' = σ then some (put op.dst d e, σ') else none
    | none => none
  | .alcv nb cs =>
    match op.dst, nilbs nb cs σ with
    | some v, some (cs', σ') => some ((v, .own (stamp e v) cs') :: e, σ')
    | _, _ => none
  | .boxv x =>
    match op.dst, (opd e x).cells with
    | some v, some cs => some ((v, .own (stamp e v) cs) :: e, σ)
    | _, _ => none
  | .stv v nb sz a x =>
    match inVar e v a, (opd e x).cells with
    | some (s, cs, off), some p =>
      if p.length = sz ∧ off + sz ≤ cs.length then
        match nilbs nb p σ with
        | some (p', σ') => some ((v, .own s (cs.take off ++ p' ++ cs.drop (off + sz))) :: e, σ')
        | none => none
      else none
    | _, _ => none
  | k => (sop e σ k).map fun x => (put op.dst x.1 e, x.2)

def D.bit : D → Option (Option Bool)
  | .bool b => some (some b)
  | .tup [] => some none
  | _ => none

def aops (O : Oracle) : List Op → Env → Stack → Option (Env × Stack)
  | [], e, σ => some (e, σ)
  | op :: r, e, σ =>
    match op.grd with
    | none => (aop O op e σ).bind fun x => aops O r x.1 x.2
    | some (g, want) =>
      match (get e g).bit with
      | some y => if y = some want then (aop O op e σ).bind fun x => aops O r x.1 x.2 else aops O r (put op.dst (.tup []) e) σ
      | none => none

def D.blur : D → D
  | .nils => .lst 0 []
  | d => d

def frzR (l i u : Nat) (σ : Stack) : D × Stack :=
  match cells? σ l i u with
  | some cs => let r := frz.frzL (frz 0 deep) cs (setBlk σ l i .dead); (.cref (r.1.map D.blur), r.2)
  | none => (.undef, σ)
def frzV (v : Nat) (e : Env) (σ : Stack) : Env × Stack :=
  match get e v with
  | .nils => ((v, .lst 0 []) :: e, σ)
  | .ref l i u 0 => let r := frzR l i u σ; ((v, r.1) :: e, r.2)
  | .own s cs => ((v, .own s (cs.map D.blur)) :: e, σ)
  | _ => (e, σ)

def frzs : List Nat → Env → Stack → Env × Stack
  | [], e, σ => (e, σ)
  | v :: vs, e, σ =>
    match get e v with
    | .sl l i u off m w => let r := frz 0 deep (.sl l i u off m w) σ; frzs vs ((v, r.1) :: e) r.2
    | .own s cs => let r := frz.frzL (frz 0 deep) cs σ; frzs vs ((v, .own s r.1) :: e) r.2
    | .agg cs => frzs vs ((v, .agg (cs.map D.blur)) :: e) σ
    | .undef => if 1000000 ≤ v then (let r := frzV (v - 1000000) e σ; frzs vs r.1 r.2) else frzs vs e σ
    | _ => frzs vs e σ

def callr (O : Oracle) (fv : D) (args : List D) (σ : Stack) : Option R :=
  match fv with
  | .fn f first cap => O (.call false f (first ++ args ++ cap) σ)
  | _ => none

def aoptR (O : Oracle) (live : List Nat) (dst : Option Nat) (post : List Op) (e : Env) : Option R → Option (Exit × Env × Stack)
  | some (.val d σ') => (aops O post (put dst d e) σ').map fun y => (.normal, restrict live y.1, y.2)
  | some (.thr d σ') => some (.thr d, e, σ')
  | _ => none

def aopt (O : Oracle) (live : List Nat) (op : Op) (post : List Op) (e : Env) (σ : Stack) : Option (Exit × Env × Stack) :=
  match op.grd, op.k with
  | none, .call false f args => aoptR O live op.dst post e (callr O (opd e f) (args.map (opd e)) σ)
  | none, .pan x => (match opd e x with
    | .ifc t d => if d.clean then some (.thr (.ifc t d), e, σ) else none
    | _ => none)
  | _, _ => none

def acode (O : Oracle) : Cmd → Env → Stack → Option (Exit × Env × Stack)
  | .nop, e, σ => some (.normal, e, σ)
  | .frz vs, e, σ => let r := frzs vs e σ; some (.normal, r.1, r.2)
  | .reg live ops, e, σ => (aops O ops e σ).map fun x => (.normal, restrict live x.1, x.2)
  | .seq a b, e, σ => (acode O a e σ).bind fun x =>
    match x.1 with
    | .normal => acode O b x.2.1 x.2.2
    | _ => some x
  | .ite c a b, e, σ =>
    match opd e c with
    | .bool t => if t then acode O a e σ else acode O b e σ
    | _ => none
  | .blk id a, e, σ => (acode O a e σ).map fun x =>
    match x.1 with
    | .exit j => if j = id then (.normal, x.2) else x
    | _ => x
  | .loop live seg a, e, σ => R.ctls (O (.loop live seg a e σ))
  | .rngf live f params asg body, e, σ =>
    match newBlk σ (.loop { state := 0, pend := none, env := strips live e, params, asg, body }) with
    | some (l, i, σ1) =>
      match callf O (opd e f) [.yld l i] σ1 with
      | some (_, σ2) =>
        match blk? σ2 l i with
        | some (.loop lp) =>
          if lp.state = 1 then none else
          some (lp.pend.getD .normal, restrict live e, setBlk σ2 l i (.loop { lp with state := 3 }))
        | _ => none
      | none => none
    | none => none
  | .mloop live it nx ok b a rest, e, σ => R.ctls (O (.mloop live it nx ok b a rest e σ))
  | .treg live pre op post, e, σ => (aops O pre e σ).bind fun x => aopt O live op post x.1 x.2
  | .dfr .., _, _ => none
  | .exit id, e, σ => some (.exit id, e, σ)
  | .ret, e, σ => some (.ret, e, σ)

inductive Res where
  | t (n : Nat)
  | c (n : Nat) (ag : Bool) (sz : Nat)
  | v (n : Nat) (ag : Bool) (sz : Nat)

structure Fn where
  npar : Nat
  res : List Res
  body : Cmd

def resD (e : Env) (σ : Stack) : Res → Option D
  | .t n => some (get e n).strip
  | .c n ag sz => (sop e σ (.ld ag sz (.t n))).map (·.1)
  | .v n ag sz => (sop e σ (.ldv n ag sz n)).map (·.1)

def resL (e : Env) (σ : Stack) : List Res → Option (List D)
  | [] => some []
  | r :: rs => (resD e σ r).bind fun d => (resL e σ rs).map fun ds => d :: ds

def mkRes : List D → D
  | [d] => d
  | ds => .tup ds

def mkEnv (n : Nat) : List D → Env
  | [] => []
  | d :: ds => (n, d) :: mkEnv (n + 1) ds

def putAll : List Nat → List D → Env → Env
  | t :: ts, d :: ds, e => putAll ts ds ((t, d) :: e)
  | _, _, e => e

abbrev Tbl := Nat → Option Fn


def intsOf : List D → Option (List Int)
  | [] => some []
  | .int .i64 z :: r => (intsOf r).map (z :: ·)
  | _ => none
def insI (x : Int) : List Int → List Int
  | [] => [x]
  | y :: l => if x ≤ y then x :: y :: l else y :: insI x l
def sortI : List Int → List Int
  | [] => []
  | x :: l => insI x (sortI l)
def intCells (l : List Int) : List D := l.map (.int .i64)
def compT (x : Int) : List Int → List Int
  | [] => []
  | y :: l => if y = x then compT x l else y :: compT y l
def compI : List Int → List Int
  | [] => []
  | x :: l => x :: compT x l
def natRow (k : Nat) (zs : List Int) : List Int := if k = 1 then sortI zs else compI zs ++ List.replicate (zs.length - (compI zs).length) 0
def natRes (k l i v off : Nat) (zs : List Int) : D := if k = 1 then .tup [] else .sl l i v off (compI zs).length 1
def natR (k : Nat) (args : List D) (σ : Stack) : Option R :=
  match args with
  | [.sl l i v off n w] =>
    if n ≠ 0 ∧ w = 1 ∧ n ≤ 1000000 then
      match cells? σ l i v with
      | some cs =>
        if off + n ≤ cs.length then
          match intsOf ((cs.drop off).take n) with
          | some zs => some (.val (natRes k l i v off zs) (setBlk σ l i (.cells v (cs.take off ++ intCells (natRow k zs) ++ cs.drop (off + n)))))
          | none => none
        else none
      | none => none
    else none
  | _ => none

def decF : Nat → Nat → List UInt8
  | 0, _ => []
  | k + 1, u => if u < 10 then [UInt8.ofNat (48 + u)] else decF k (u / 10) ++ [UInt8.ofNat (48 + u % 10)]
def itoaF (n : Int) : List UInt8 := if n < 0 then 45 :: decF 20 n.natAbs else decF 20 n.toNat
def strsOf : List D → Option (List (List UInt8))
  | [] => some []
  | .str s :: r => (strsOf r).map (s :: ·)
  | _ => none
def joinF (sep : List UInt8) : List (List UInt8) → List UInt8
  | [] => []
  | x :: r => x ++ r.flatMap (sep ++ ·)
def splitF (b : UInt8) : List UInt8 → List (List UInt8)
  | [] => [[]]
  | c :: r => if c = b then [] :: splitF b r else match splitF b r with
    | x :: l => (c :: x) :: l
    | [] => [[c]]
def atoiF (s : List UInt8) : Nat × Int :=
  match Lib.atoiAll s with
  | .ok v => (0, v)
  | Lib.NumEnd.syntax => (1, 0)
  | .range => (2, Lib.atoiSat s)
def delF (a b : Nat) (xs : List (List UInt8)) : List (List UInt8) := xs.take a ++ xs.drop b ++ List.replicate (b - a) []
def natQ (k : Nat) (args : List D) (σ : Stack) : Option R :=
  match k % 16, args with
  | 3, [.int .i64 n] => if -9223372036854775808 ≤ n ∧ n ≤ 9223372036854775807 then some (.val (.str (itoaF n)) σ) else none
  | 4, [.str s] => if s.length ≤ 1000000 then some (.val (.tup [.int .i64 (atoiF s).2, if (atoiF s).1 = 0 then .nili else .ifc (k / 16) .undef]) σ) else none
  | 5, [.lst n cs, .str sep] =>
    match strsOf cs with
    | some xs => if n = xs.length ∧ n ≤ 1000 ∧ (joinF sep xs).length ≤ 1000000 then some (.val (.str (joinF sep xs)) σ) else none
    | none => none
  | 6, [.str s, .str [b]] => if s.length ≤ 1000000 then some (.val (.lst (splitF b s).length ((splitF b s).map .str)) σ) else none
  | 7, [.yld l i, .str s] =>
    match cells? σ l i 2 with
    | some [.int .i64 t, .int .i64 e, .str bs] =>
      if t = ((k / 16 % 65536 : Nat) : Int) ∧ e = ((k / 16 / 65536 : Nat) : Int) ∧ bs.length + s.length ≤ 1000000 then
        some (.val (.tup [.int .i64 s.length, .nili]) (setBlk σ l i (.cells 2 [.int .i64 t, .int .i64 e, .str (bs ++ s)])))
      else none
    | _ => none
  | 8, [.yld l i] =>
    match cells? σ l i 2 with
    | some [.int .i64 t, .int .i64 e, .str bs] => if t = ((k / 16 % 65536 : Nat) : Int) ∧ e = ((k / 16 / 65536 : Nat) : Int) ∧ bs ≠ [] then some (.val (.str bs) σ) else none
    | _ => none
  | 9, [.sl l i v off n w, .int .i64 a, .int .i64 b] =>
    if n ≠ 0 ∧ w = 1 ∧ n ≤ 1000000 ∧ 0 ≤ a ∧ a ≤ b ∧ b ≤ (n : Int) then
      match cells? σ l i v with
      | some cs =>
        if off + n ≤ cs.length then
          match strsOf ((cs.drop off).take n) with
          | some xs => some (.val (.sl l i v off (n - (b.toNat - a.toNat)) 1) (setBlk σ l i (.cells v (cs.take off ++ (delF a.toNat b.toNat xs).map .str ++ cs.drop (off + n)))))
          | none => none
        else none
      | none => none
    else none
  | 0, _ => none
  | 9, _ => none
  | 10, _ => none
  | 11, _ => none
  | 12, _ => none
  | 13, _ => none
  | 14, _ => none
  | 15, _ => none
  | 1, args => natR 1 args σ
  | 2, args => natR 2 args σ
  | _, _ => none

def iterD (σ : Stack) (l i : Nat) : Option (D × Nat × List D × List Nat) :=
  match cells? σ l i 1 with
  | some (m :: .int .i64 n :: js) =>
    match mapD σ m with
    | some (_, _, es) => if (es.length : Int) = n then some (m, es.length, js, (List.range es.length).filter fun j => !(js.contains (.int .i64 j))) else none
    | none => none
  | _ => none

def agree : List (Option R) → Option R
  | [] => none
  | r :: rs => if ∀ x ∈ rs, x = r then r else none

def mend (O : Oracle) (l i b : Nat) (rest : Cmd) : Option (Exit × Env × Stack) → Option R
  | some (.exit j, e1, σ1) =>
    if j = b then (acode O rest e1 (setBlk σ1 l i .dead)).map fun x => .ctl x.1 x.2.1 x.2.2
    else some (.ctl (.exit j) e1 (setBlk σ1 l i .dead))
  | some (.ret, e1, σ1) => some (.ctl .ret e1 (setBlk σ1 l i .dead))
  | _ => none
def mnext (O : Oracle) (live : List Nat) (it : Opd) (l i nx ok b : Nat) (c rest : Cmd) : Option (Exit × Env × Stack) → Option R
  | some (.normal, e1, σ1) => O (.mloop live it nx ok b c rest e1 σ1)
  | y => mend O l i b rest y

def splitT : Cmd → Option (Cmd × Opd × List Opd × Cmd)
  | .dfr f args q => some (.nop, f, args, q)
  | .seq a b => (splitT b).map fun x => (.seq a x.1, x.2)
  | _ => none

def thrown (kp : Bool) (d : D) : Stack → Option R
  | _ :: σ => if kp = false ∧ d.clean = true then some (.thr d σ) else none
  | [] => none

def leave (res : List Res) (σ : Stack) (e : Env) (σ1 : Stack) : Option R :=
  match resL e σ1 res with
  | some ds => (match frz (σ.length - 1) deep (mkRes ds) σ1 with
    | (d, _ :: σ2) => some (.val d σ2)
    | _ => none)
  | none => none

def dcallR (O : Oracle) (fv : D) (args : List D) (th : Option D) (σ : Stack) : Option R :=
  match fv with
  | .fn f first cap => O (.dcall f (first ++ args ++ cap) th σ)
  | _ => none

def dleave (res : List Res) (σ : Stack) (e : Env) : Option R → Option R
  | some (.val _ σ1) => leave res σ e σ1
  | _ => none

def dtail (O : Oracle) (res : List Res) (σ : Stack) (fv : D) (args : List D) : Option (Exit × Env × Stack) → Option R
  | some (.thr d, e, σ1) => dleave res σ e (dcallR O fv args (some d) σ1)
  | some (.normal, e, σ1) => dleave res σ e (dcallR O fv args none σ1)
  | some (.ret, e, σ1) => dleave res σ e (dcallR O fv args none σ1)
  | _ => none

def dbody (O : Oracle) (fn : Fn) (σ : Stack) : Option (Cmd × Opd × List Opd × Cmd) → Env → Stack → Option R
  | some (a, f, args, q), e0, σ0 =>
    (match acode O a e0 σ0 with
    | some (.normal, e, σ1) => dtail O fn.res σ (opd e f) (args.map (opd e)) (acode O q e σ1)
    | _ => none)
  | none, _, _ => none

def afterRcv (th : Option D) (args : List D) : Cmd → Option (Env × Cmd)
  | .seq (.reg live [⟨some t, none, _, .rcv⟩]) q => (match q with
    | .mloop .. => none
    | q => some (restrict live ((t, th.getD .nili) :: mkEnv 0 args), q))
  | _ => none

def stepQ (T : Tbl) (O : Oracle) : Q → Option R
  | .call kp f args σ =>
    match T f with
    | some fn =>
      if args.length = fn.npar then
        match acode O fn.body (mkEnv 0 args) (if kp then σ else [] :: σ) with
        | some (.exit _, _, _) => none
        | some (.thr d, _, σ1) => thrown kp d σ1
        | some (_, e, σ1) =>
          match resL e σ1 fn.res with
          | some ds =>
            if kp then some (.val (mkRes ds) σ1) else
            match frz (σ.length - 1) deep (mkRes ds) σ1 with
            | (d, _ :: σ2) => some (.val d σ2)
            | _ => none
          | none => none
        | none => if kp then none else dbody O fn σ (splitT fn.body) (mkEnv 0 args) ([] :: σ)
      else none
    | none =>
      match T (1000000 + f) with
      | some fn => natQ fn.npar args σ
      | none => none
  | .loop live seg c e σ =>
    match acode O c (restrict live e) (if seg then [] :: σ else σ) with
    | some (x, e1, σ1) =>
      let (e2, σ2) := if seg then (let r := frzE (σ.length - 1) (restrict (liveAt live x e1) e1) σ1; (r.1, r.2.tail)) else (e1, σ1)
      match x with
      | .normal => O (.loop live seg c e2 σ2)
      | x => some (.ctl x e2 σ2)
    | none => none
  | .round l i args σ =>
    match blk? σ l i with
    | some (.loop lp) =>
      if args.length = lp.params.length then
        match acode O lp.asg (putAll lp.params args lp.env) ([] :: σ) with
        | some (.normal, e1, σ1) =>
          match blk? σ1 l i with
          | some (.loop lp1) =>
            if lp1.state = 0 then
              match acode O lp.body e1 (setBlk σ1 l i (.loop { lp1 with state := 1 })) with
              | some (x, _, _ :: σ2) =>
                match blk? σ2 l i with
                | some (.loop lp2) =>
                  match x with
                  | .thr _ => none
                  | .normal => some (.val (.bool true) (setBlk σ2 l i (.loop { lp2 with state := 0, pend := none })))
                  | x => some (.val (.bool false) (setBlk σ2 l i (.loop { lp2 with state := 2, pend := some x })))
                | _ => none
              | _ => none
            else none
          | _ => none
        | _ => none
      else none
    | _ => none
  | .mloop live it nx ok b c rest e σ =>
    match opd (restrict live e) it with
    | .yld l i =>
      match iterD σ l i with
      | some (_, _, _, []) => mend O l i b rest (acode O c ((ok, .bool false) :: (nx, .undef) :: restrict live e) σ)
      | some (m, n, js, us) => agree (us.map fun u => mnext O live it l i nx ok b c rest (acode O c ((ok, .bool true) :: (nx, .undef) :: restrict live e) (setBlk σ l i (.cells 1 (m :: .int .i64 (n : Nat) :: .int .i64 (u : Nat) :: js)))))
      | none => none
    | _ => none
  | .dcall f args th σ =>
    match T f with
    | some fn =>
      if args.length = fn.npar then
        match afterRcv th args fn.body with
        | some (e0, q) =>
          match acode O q e0 ([] :: σ) with
          | some (.exit _, _, _) => none
          | some (.thr _, _, _) => none
          | some (_, e, σ1) =>
            match resL e σ1 fn.res, σ1 with
            | some [], _ :: σ2 => some (.val (.tup []) σ2)
            | _, _ => none
          | none => none
        | none => none
      else none
    | none => none

def it (T : Tbl) : Nat → Oracle
  | 0 => fun _ => none
  | n + 1 => stepQ T (it T n)

open Classical in
noncomputable def lim (T : Tbl) : Oracle := fun q =>
  if h : ∃ n r, it T n q = some r then some h.choose_spec.choose else none

end Go.Abs
