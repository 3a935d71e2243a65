/-
  From the model's code to the small instruction set.
-/
import Derived.Test.YticpenoicajakaaAbsCore
import GoSem.Core.Program
import GoSem.Core.Layout
import Derived.AtR
namespace Go.Abs
open Go

/-- What a program of mine says of a function's code: what lives behind each region, at each loop; which variables are written. Nothing leans on it. -/
structure Ann where
  live : List (Nat × List Nat)
  llive : List (Nat × List Nat)
  seg : List Nat
  mutb : List Nat
  ownv : List Nat
  nb : List (Nat × List (Nat × Nat))
  kp : List Nat

def look {α : Type} (n : Nat) (d : α) : List (Nat × α) → α
  | [] => d
  | (k, v) :: r => if k = n then v else look n d r

/-- A constant of one cell. -/
def valD : Value → Option D
  | .bool b => some (.bool b)
  | .int k n => some (.int k n)
  | .string s => some (.str s.data.toList)
  | .pointer none => some .nilp
  | .slice none 0 0 => some .nils
  | .nilFunc => some .nilf
  | _ => none

def cellsD : List Value → Option (List D)
  | [] => some []
  | v :: vs => match valD v, cellsD vs with
    | some d, some ds => some (d :: ds)
    | _, _ => none

def constD : Value → Option D
  | .agg cs => (cellsD cs.toList).map .agg
  | v => valD v

def opdC : Operand → Option Opd
  | .tmp t => some (.t t)
  | .const v => (constD v).map .c
  | .func f => some (.c (.fn f [] []))
  | .global _ => none

def opdsC : List Operand → Option (List Opd)
  | [] => some []
  | x :: xs => match opdC x, opdsC xs with
    | some y, some ys => some (y :: ys)
    | _, _ => none

def optC : Option Operand → Option (Option Opd)
  | none => some none
  | some x => (opdC x).map some

def sizeC (P : Program) (t : TypeId) : Option Nat := (P.info? t).map (·.size)

def aggC (P : Program) (t : TypeId) : Option Bool :=
  match P.underlying t with
  | some (.struct _) | some (.array _ _) => some true
  | some _ => some false
  | none => none

def zeroC (P : Program) (t : TypeId) : Option (List D) :=
  match P.info? t with
  | some i => match i.zero with
    | some z => cellsD z.cells.toList
    | none => none
  | none => none

def isNilSlice : Operand → Bool
  | .const (.slice none 0 0) => true
  | _ => false

/-- The parts of a composite: place and size. -/
def partsC (place : Nat → Option (Nat × Nat)) : List (Nat × Operand) → Option (List (Nat × Nat × Opd))
  | [] => some []
  | (i, x) :: r => match place i, opdC x, partsC place r with
    | some (o, s), some y, some r' => some ((o, s, y) :: r')
    | _, _, _ => none

/-- The places of a struct's fields. -/
def fieldsC (P : Program) (fs : Array Field) (i : Nat) : Option (Nat × Nat) :=
  match fs[i]? with
  | some f => (sizeC P f.type).map fun s => (f.offset, s)
  | none => none

/-- The cells of a type made of numbers (their kinds) and bools (none) alone, its parts in order and nothing between. -/
def kindsC (P : Program) : Nat → TypeId → Option (List (Option IntKind))
  | 0, _ => none
  | d + 1, t =>
    match P.underlying t with
    | some (.int k) => some [some k]
    | some .bool => some [none]
    | some (.struct fs) => if P.stoodInHeld t then none else kindsF P (kindsC P d) 0 fs.toList
    | some (.array n e) => match kindsC P d e with
      | some ks => if sizeC P e == some ks.length && decide (0 < ks.length) then some ((List.range n).flatMap fun _ => ks) else none
      | none => none
    | _ => none
where
  kindsF (P : Program) (f : TypeId → Option (List (Option IntKind))) (o : Nat) : List Field → Option (List (Option IntKind))
    | [] => some []
    | x :: r => match f x.type with
      | some ks => if x.name ≠ "_" ∧ x.offset = o ∧ sizeC P x.type = some ks.length ∧ 0 < ks.length then (kindsF P f (o + ks.length) r).map (ks ++ ·) else none
      | none => none

def eqC (P : Program) (b : BinOp) (t : TypeId) (x y : Opd) : Option K :=
  match kindsC P 20 t with
  | some ks => if P.eqGuardType P.depth t then none else
    match b with
    | .eql => (aggC P t).map fun ag => .eqv ag ks false x y
    | .neq => (aggC P t).map fun ag => .eqv ag ks true x y
    | _ => none
  | none => none

/-- The temporary that an address was reckoned from, in one region. -/
def rootC (ops : Array Oper) : Nat → Nat → Nat
  | 0, t => t
  | n + 1, t =>
    match ops.toList.find? (fun o => o.dst == some t) with
    | some o => match o.op with
      | .fieldAddr _ (.tmp x) _ => rootC ops n x
      | .indexAddr _ (.tmp x) _ => rootC ops n x
      | _ => t
    | none => t

def kC (P : Program) (a : Ann) (ops : Array Oper) (key : Nat) (o : Oper) : Option K :=
  match o.op with
  | .move x => (opdC x).map .mv
  | .assign x =>
    match isNilSlice x, P.underlying o.type, o.dst with
    | true, some (.slice e), some d => if a.mutb.contains d then (sizeC P e).map .nilb else (opdC x).map .mv
    | _, _, _ => (opdC x).map .mv
  | .pick c x y => match opdC c, opdC x, opdC y with
    | some c', some x', some y' => some (.pick c' x' y')
    | _, _, _ => none
  | .alloc e => match zeroC P e, o.dst with
    | some z, some d => some (if a.ownv.contains d then .alcv (look key [] a.nb) z else .alc (look key [] a.nb) z)
    | _, _ => none
  | .box _ x => match opdC x, o.dst with
    | some x', some d => some (if a.ownv.contains d then .boxv x' else if a.mutb.contains d then .boxm x' else .boxi x')
    | _, _ => none
  | .build t ps =>
    match P.underlying t, zeroC P t with
    | some (.struct fs), some z => if fs.toList.all (fun f => (sizeC P f.type).isSome) then (partsC (fieldsC P fs) ps.toList).map (.bld z) else none
    | some (.array _ e), some z => match sizeC P e with
      | some w => (partsC (fun i => some (i * w, w)) ps.toList).map (.bld z)
      | none => none
    | _, _ => none
  | .buildSlice t n ps =>
    match P.underlying t with
    | some (.slice e) =>
      match sizeC P e, zeroC P e, o.dst with
      | some w, some z, some d =>
        if 0 < w ∧ z.length = w ∧ n * w ≤ 2 ^ 24 then
          (partsC (fun i => some (i * w, w)) ps.toList).map fun p =>
            let zs := (List.range n).flatMap fun _ => z
            if a.mutb.contains d then .bsm n w zs p else .bsi n w zs p
        else none
      | _, _, _ => none
    | _ => none
  | .load t x => match aggC P t, sizeC P t, opdC x with
    | some g, some s, some (.t n) => if (g || s == 1) && decide (0 < s) then some (if a.ownv.contains (rootC ops 8 n) then .ldv (rootC ops 8 n) g s n else .ld g s (.t n)) else none
    | _, _, _ => none
  | .store t x y => match sizeC P t, opdC x, opdC y with
    | some s, some (.t n), some y' => some (if a.ownv.contains (rootC ops 8 n) then .stv (rootC ops 8 n) (look key [] a.nb) s n y' else .st (look key [] a.nb) s (.t n) y')
    | _, _, _ => none
  | .binOp b t x y _ =>
    match P.underlying t, opdC x, opdC y with
    | some (.int _), some x', some y' => some (.bin b x' y')
    | some .bool, some x', some y' => eqC P b t x' y'
    | some (.struct _), some x', some y' => eqC P b t x' y'
    | some (.array _ _), some x', some y' => eqC P b t x' y'
    | _, _, _ => none
  | .unOp b _ x => (opdC x).map (.un b)
  | .convert s d x =>
    match P.underlying s, P.underlying d, opdC x with
    | some (.int _), some (.int k), some x' => some (.cvt k x')
    | _, _, _ => none
  | .makeFunc (.func f) xs ys => match opdsC xs.toList, opdsC ys.toList with
    | some xs', some ys' => some (.mkf f xs' ys')
    | _, _ => none
  | .makeSlice t x y =>
    match P.underlying t with
    | some (.slice e) =>
      match sizeC P e, (P.info? e).map (·.bytes), zeroC P e, opdC x, opdC y with
      | some w, some b, some z, some x', some y' => if 0 < w ∧ 0 < b then some (.mks w b z x' y') else none
      | _, _, _, _, _ => none
    | _ => none
  | .slice t x lo hi mx =>
    match P.underlying t, opdC x, optC lo, optC hi, optC mx with
    | some (.slice e), some x', some lo', some hi', some mx' => (sizeC P e).map fun w => .slc w x' lo' hi' mx'
    | some (.array n e), some x', some lo', some hi', some none => (sizeC P e).map fun w => .slca n w x' lo' hi'
    | _, _, _, _, _ => none
  | .fieldAddr s x i =>
    match P.underlying s, opdC x with
    | some (.struct fs), some x' =>
      match fieldsC P fs i with
      | some (off, sz) => if 0 < sz then some (.fadr off x') else none
      | none => none
    | _, _ => none
  | .field s x i =>
    match P.underlying s, opdC x with
    | some (.struct fs), some x' =>
      match fs[i]? with
      | some f => match aggC P f.type, sizeC P f.type with
        | some g, some sz => if g || sz == 1 then some (.fld g f.offset sz x') else none
        | _, _ => none
      | none => none
    | _, _ => none
  | .indexAddr t x i =>
    match P.underlying t, opdC x, opdC i with
    | some (.array n e), some x', some i' => (sizeC P e).map fun w => .idxA n w x' i'
    | some (.slice e), some x', some i' => (sizeC P e).map fun w => .idxS w x' i'
    | _, _, _ => none
  | .index t x i =>
    match P.underlying t, opdC x, opdC i with
    | some (.array n e), some x', some i' => match aggC P e, sizeC P e with
      | some g, some w => if g || w == 1 then some (.idxV g n w x' i') else none
      | _, _ => none
    | _, _, _ => none
  | .extract x i => (opdC x).map (.ext · i)
  | .call c =>
    match c.callee with
    | .value f => match opdC f, opdsC c.args.toList with
      | some f', some xs => some (.call (a.kp.contains key) f' xs)
      | _, _ => none
    | .builtin .len =>
      match c.argTypes.toList, c.args.toList with
      | t :: _, x :: _ => match P.underlying t, opdC x with
        | some (.slice _), some x' => some (.lenS x')
        | some (.array n _), _ => some (.lenC n)
        | some (.pointer r), _ => (match P.underlying r with | some (.array n _) => some (.lenC n) | _ => none)
        | _, _ => none
      | _, _ => none
    | .builtin .min => match c.args.toList with
      | [x, y] => (match opdC x, opdC y with | some x', some y' => some (.mn x' y') | _, _ => none)
      | _ => none
    | .builtin .max => match c.args.toList with
      | [x, y] => (match opdC x, opdC y with | some x', some y' => some (.mx x' y') | _, _ => none)
      | _ => none
    | .builtin .append =>
      match c.argTypes.toList, c.args.toList with
      | [t, u], [x, y] => match P.underlying t, P.underlying u, opdC x, opdC y with
        | some (.slice e), some (.slice _), some x', some y' =>
          (match sizeC P e, (P.info? e).map (·.bytes), zeroC P e with
          | some w, some b, some z => if 0 < w ∧ 0 < b ∧ b ≤ 2 ^ 20 ∧ z.length = w then
              some (if isNilSlice x && !(o.dst.any a.mutb.contains) then .cpi w b y' else .app w b x' y') else none
          | _, _, _ => none)
        | _, _, _, _ => none
      | _, _ => none
    | _ => none
  | _ => none

/-- Does an operation make a variable of the frame's own? -/
def K.makes : K → Bool
  | .alcv .. => true
  | .boxv _ => true
  | _ => false

def K.stvs : K → Bool
  | .stv .. => true
  | _ => false

def opC (P : Program) (a : Ann) (n reg : Nat) (ops : Array Oper) (ntr : Bool) (i : Nat) (o : Oper) : Option Op :=
  match kC P a ops (reg * 1000 + i) o with
  | some k =>
    match (match o.guard with
      | none => some none
      | some (j, b) => match (ops[j]?).bind (·.dst) with
        | some d => some (some (d, b))
        | none => none), (match o.dst with | some d => decide (d < n) | none => true) with
    | some g, true => if (match o.dst with | some d => !(a.ownv.contains d) || (k.makes && o.guard.isNone) | none => !k.makes) && (!k.stvs || o.dst.isNone) then some { dst := o.dst, grd := g, ntr, k } else none
    | _, _ => none
  | none => none

def opsC (P : Program) (a : Ann) (n reg : Nat) (ops : Array Oper) (tail : Nat) : Nat → List Oper → Option (List Op)
  | _, [] => some []
  | i, o :: r => match opC P a n reg ops (decide (i < tail)) i o, opsC P a n reg ops tail (i + 1) r with
    | some x, some xs => some (x :: xs)
    | _, _ => none

/-- May an operation stand where the order is open? -/
def K.calm : K → Bool
  | .st .. => false
  | .app .. => false
  | .nilb _ => false
  | .alc .. => false
  | .boxm _ => false
  | .bsm .. => false
  | .mks .. => false
  | .alcv nb _ => nb.isEmpty
  | .stv _ nb _ _ _ => nb.isEmpty
  | _ => true

def Opd.tmps : Opd → List Nat
  | .t n => [n]
  | .c _ => []

def K.tmps : K → List Nat
  | .mv x => x.tmps
  | .nilb _ => []
  | .pick c a b => c.tmps ++ a.tmps ++ b.tmps
  | .alc .. => []
  | .alcv .. => []
  | .boxi x => x.tmps
  | .boxm x => x.tmps
  | .boxv x => x.tmps
  | .ldv v _ _ a => [v, a]
  | .stv v _ _ a x => [v, a] ++ x.tmps
  | .bld _ ps => ps.flatMap fun p => p.2.2.tmps
  | .bsi _ _ _ ps => ps.flatMap fun p => p.2.2.tmps
  | .bsm _ _ _ ps => ps.flatMap fun p => p.2.2.tmps
  | .ld _ _ a => a.tmps
  | .st _ _ a x => a.tmps ++ x.tmps
  | .bin _ x y => x.tmps ++ y.tmps
  | .eqv _ _ _ x y => x.tmps ++ y.tmps
  | .un _ x => x.tmps
  | .cvt _ x => x.tmps
  | .mkf _ xs ys => xs.flatMap Opd.tmps ++ ys.flatMap Opd.tmps
  | .mks _ _ _ l c => l.tmps ++ c.tmps
  | .slc _ x lo hi m => x.tmps ++ (lo.map Opd.tmps).getD [] ++ (hi.map Opd.tmps).getD [] ++ (m.map Opd.tmps).getD []
  | .slca _ _ x lo hi => x.tmps ++ (lo.map Opd.tmps).getD [] ++ (hi.map Opd.tmps).getD []
  | .fadr _ x => x.tmps
  | .fld _ _ _ x => x.tmps
  | .idxA _ _ x i => x.tmps ++ i.tmps
  | .idxS _ x i => x.tmps ++ i.tmps
  | .idxV _ _ _ x i => x.tmps ++ i.tmps
  | .lenS x => x.tmps
  | .lenC _ => []
  | .mn x y => x.tmps ++ y.tmps
  | .mx x y => x.tmps ++ y.tmps
  | .app _ _ s x => s.tmps ++ x.tmps
  | .cpi _ _ x => x.tmps
  | .ext x _ => x.tmps
  | .call _ f xs => f.tmps ++ xs.flatMap Opd.tmps

def Op.uses (o : Op) : List Nat := (match o.grd with | some (g, _) => [g] | none => []) ++ o.k.tmps

/-- What must run before each operation, by chains too: as bits. -/
def befores : List Oper → List Nat → List Nat
  | [], acc => acc
  | o :: r, acc => befores r (acc ++ [o.after.toList.foldl (fun s e => if Region.binds .any e then s ||| 2 ^ e.on ||| acc.getD e.on 0 else s) 0])

/-- The first operation from which on all stand in a row, each behind all before it. -/
def tailOf (bs : List Nat) : Nat :=
  go bs.length
where
  go : Nat → Nat
    | 0 => 0
    | n + 1 => if bs.getD n 0 = 2 ^ n - 1 then go n else n + 1

def Op.defs (o : Op) : List Nat := o.dst.toList ++ (match o.k with | .stv v _ _ _ _ => [v] | _ => [])

/-- Do two operations touch one temporary, and one of them writes it? (A variable that is made anew counts as read, too.) -/
def Op.clash (o p : Op) : Bool :=
  o.defs.any (fun d => p.defs.contains d || p.uses.contains d) || o.uses.any (fun d => p.defs.contains d)

/-- Are the operations ahead of the tail such that their order is of no matter? bs: what must run before. -/
def calmC (bs : List Nat) : Nat → List Op → Bool
  | _, [] => true
  | i, o :: r => o.k.calm && after i (i + 1) o r && calmC bs (i + 1) r
where
  after (i : Nat) : Nat → Op → List Op → Bool
    | _, _, [] => true
    | j, o, p :: r => (!(o.clash p) || (bs.getD j 0).testBit i) && after i (j + 1) o r

def edgesOk : Nat → List Oper → Bool
  | _, [] => true
  | i, o :: r => (o.after.toList.all fun e => !Region.binds .any e || decide (e.on < i)) && edgesOk (i + 1) r

def codeC (P : Program) (a : Ann) (n : Nat) (blk : Nat) : Code → Option Cmd
  | .skip => some .nop
  | .region id ops draw =>
    if draw then
      let bs := befores ops.toList []
      let tail := tailOf bs
      match opsC P a n id ops tail 0 ops.toList with
      | some xs => if calmC bs 0 (xs.take tail) && edgesOk 0 ops.toList then some (.reg (look id [] a.live) xs) else none
      | none => none
    else (opsC P a n id ops 0 0 ops.toList).map (.reg (look id [] a.live))
  | .seq x y => match codeC P a n blk x, codeC P a n blk y with
    | some x', some y' => some (.seq x' y')
    | _, _ => none
  | .cond c x y => match opdC c, codeC P a n blk x, codeC P a n blk y with
    | some c', some x', some y' => some (.ite c' x' y')
    | _, _, _ => none
  | .block id x => (codeC P a n id x).map (.blk id)
  | .loop x => (codeC P a n blk x).map (.loop (look blk [] a.llive) (a.seg.contains blk))
  | .rangeFunc f ps x y => match opdC f, codeC P a n blk x, codeC P a n blk y with
    | some f', some x', some y' => if ps.toList.all (fun t => decide (t < n) && !(a.ownv.contains t)) then some (.rngf (look blk [] a.llive) f' ps.toList x' y') else none
    | _, _, _ => none
  | .exit id => some (.exit id)
  | .ret => some .ret
  | _ => none

def resC (P : Program) (a : Ann) : ResultVar → Option Res
  | .tmp t => some (.t t)
  | .cell x t => match aggC P t, sizeC P t with
    | some g, some s => if (g || s == 1) && decide (0 < s) then some (if a.ownv.contains x then .v x g s else .c x g s) else none
    | _, _ => none

def ressC (P : Program) (a : Ann) : List ResultVar → Option (List Res)
  | [] => some []
  | r :: rs => match resC P a r, ressC P a rs with
    | some x, some xs => some (x :: xs)
    | _, _ => none

/-- A function. -/
def fnC (P : Program) (a : Ann) (f : Func) : Option Fn :=
  match f.body with
  | some c => match codeC P a f.ntmps 0 c, ressC P a f.results.toList with
    | some c', some rs => if f.params.size + f.nfree ≤ f.ntmps then some { npar := f.params.size + f.nfree, res := rs, body := c' } else none
    | _, _ => none
  | none => none

end Go.Abs
