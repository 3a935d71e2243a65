/- The interpreter, part 2: proved sound against the model. -/
import Derived.Test.YtfgljaglidhjiaaGreatDoorBase0
import GoSem.Core.Program
import GoSem.Core.Layout
import Derived.AtR
import Derived.Laws.Build
import Derived.Test.YtfgljaglidhjiaaGreatDoorBase1
import Derived.Laws.Cells
/-
  From the model's code to the small instruction set.
-/
namespace Go.Abs
open Go

structure Ann where
  live : List (Nat × List Nat)
  llive : List (Nat × List Nat)
  seg : List Nat
  mutb : List Nat
  ownv : List Nat
  nb : List (Nat × List (Nat × Nat))
  kp : List Nat
  fz : List (Nat × List Nat)
  imm : List Nat
  sx : List (Nat × Option (List Nat))
  thr : List (Nat × Option Nat) := []

def look {α : Type} (n : Nat) (d : α) : List (Nat × α) → α
  | [] => d
  | (k, v) :: r => if k = n then v else look n d r

def valD : Value → Option D
  | .bool b => some (.bool b)
  | .int k n => some (.int k n)
  | .string s => some (.str s.data.toList)
  | .pointer none => some .nilp
  | .slice none 0 0 => some .nils
  | .nilFunc => some .nilf
  | .nilIface => some .nili
  | .map none => some .undef
  | _ => none

def cellsD : List Value → Option (List D)
  | [] => some []
  | v :: vs => match valD v, cellsD vs with
    | some d, some ds => some (d :: ds)
    | _, _ => none

def constD : Value → Option D
  | .agg cs => (cellsD cs.toList).map .agg
  | v => valD v

def opdC : Operand → Option Opd
  | .tmp t => some (.t t)
  | .const v => (constD v).map .c
  | .func f => some (.c (.fn f [] []))
  | .global _ => none

def opdsC : List Operand → Option (List Opd)
  | [] => some []
  | x :: xs => match opdC x, opdsC xs with
    | some y, some ys => some (y :: ys)
    | _, _ => none

def optC : Option Operand → Option (Option Opd)
  | none => some none
  | some x => (opdC x).map some

def sizeC (P : Program) (t : TypeId) : Option Nat := (P.info? t).map (·.size)

def aggC (P : Program) (t : TypeId) : Option Bool :=
  match P.underlying t with
  | some (.struct _) | some (.array _ _) => some true
  | some _ => some false
  | none => none

def zeroC (P : Program) (t : TypeId) : Option (List D) :=
  match P.info? t with
  | some i => match i.zero with
    | some z => cellsD z.cells.toList
    | none => none
  | none => none

def isNilSlice : Operand → Bool
  | .const (.slice none 0 0) => true
  | _ => false

def partsC (place : Nat → Option (Nat × Nat)) : List (Nat × Operand) → Option (List (Nat × Nat × Opd))
  | [] => some []
  | (i, x) :: r => match place i, opdC x, partsC place r with
    | some (o, s), some y, some r' => some ((o, s, y) :: r')
    | _, _, _ => none

def fieldsC (P : Program) (fs : Array Field) (i : Nat) : Option (Nat × Nat) :=
  match fs[i]? with
  | some f => (sizeC P f.type).map fun s => (f.offset, s)
  | none => none

def kindsC (P : Program) : Nat → TypeId → Option (List (Option IntKind))
  | 0, _ => none
  | d + 1, t =>
    match P.underlying t with
    | some (.int k) => some [some k]
    | some .bool => some [none]
    | some (.struct fs) => if P.stoodInHeld t then none else kindsF P (kindsC P d) 0 fs.toList
    | some (.array n e) => match kindsC P d e with
      | some ks => if sizeC P e == some ks.length && decide (0 < ks.length) then some ((List.range n).flatMap fun _ => ks) else none
      | none => none
    | _ => none
where
  kindsF (P : Program) (f : TypeId → Option (List (Option IntKind))) (o : Nat) : List Field → Option (List (Option IntKind))
    | [] => some []
    | x :: r => match f x.type with
      | some ks => if x.name ≠ "_" ∧ x.offset = o ∧ sizeC P x.type = some ks.length ∧ 0 < ks.length then (kindsF P f (o + ks.length) r).map (ks ++ ·) else none
      | none => none

def zvC (P : Program) (t : TypeId) : Option D :=
  match P.info? t with
  | some i => match i.zero with
    | some z => constD z
    | none => none
  | none => none

def keyC (P : Program) (t : TypeId) : Option Ky :=
  match P.underlying t with
  | some .string => some none
  | some (.int k) => some (some (false, [some k]))
  | some (.struct fs) =>
    if fs.toList.all (fun f => match P.underlying f.type with | some (.int _) => true | some .bool => true | _ => false) then
      (kindsC P 20 t).map fun ks => some (true, ks)
    else none
  | _ => none

def eqC (P : Program) (b : BinOp) (t : TypeId) (x y : Opd) : Option K :=
  match kindsC P 20 t with
  | some ks => if P.eqGuardType P.depth t then none else
    match b with
    | .eql => (aggC P t).map fun ag => .eqv ag ks false x y
    | .neq => (aggC P t).map fun ag => .eqv ag ks true x y
    | _ => none
  | none => none

def rootC (ops : Array Oper) : Nat → Nat → Nat
  | 0, t => t
  | n + 1, t =>
    match ops.toList.find? (fun o => o.dst == some t) with
    | some o => match o.op with
      | .fieldAddr _ (.tmp x) _ => rootC ops n x
      | .indexAddr _ (.tmp x) _ => rootC ops n x
      | _ => t
    | none => t

def tmpOf : Operand → Option Nat
  | .tmp t => some t
  | _ => none

def isC (ps : Bool) (b : BinOp) (x : Opd) : Option K :=
  match b with
  | .eql => some (.isn ps false x)
  | .neq => some (.isn ps true x)
  | _ => none

def rowish : TypeDesc → Bool
  | .slice _ => true
  | .string => true
  | _ => false

def kC (P : Program) (a : Ann) (ops : Array Oper) (key : Nat) (o : Oper) : Option K :=
  match o.op with
  | .move x => (opdC x).map .mv
  | .assign x =>
    match isNilSlice x, P.underlying o.type, o.dst with
    | true, some (.slice e), some d => if a.mutb.contains d then (sizeC P e).map .nilb else (opdC x).map .mv
    | _, _, _ => (opdC x).map .mv
  | .pick c x y => match opdC c, opdC x, opdC y with
    | some c', some x', some y' => some (.pick c' x' y')
    | _, _, _ => none
  | .alloc e => match zeroC P e, o.dst with
    | some z, some d => if a.kp.contains (2000000 + key) then (match P.underlying e with
        | some (.struct fs) => (match fs.toList with
          | [_, f] => (match P.underlying f.type, z with
            | some (.slice b), [.nilp, .nils] => some (.mp (.bld e b) [])
            | _, _ => none)
          | _ => none)
        | _ => none) else some (if a.ownv.contains d then .alcv (look key [] a.nb) z else .alc (look key [] a.nb) z)
    | _, _ => none
  | .box _ x => match opdC x, o.dst with
    | some x', some d => some (if a.ownv.contains d then .boxv x' else if a.mutb.contains d then (match look key [] a.nb with | [] => .boxm x' | nb => .bxn nb x') else .boxi x')
    | _, _ => none
  | .build t ps =>
    match P.underlying t, zeroC P t with
    | some (.struct fs), some z => if fs.toList.all (fun f => (sizeC P f.type).isSome) then (partsC (fieldsC P fs) ps.toList).map (.bld z) else none
    | some (.array _ e), some z => match sizeC P e with
      | some w => (partsC (fun i => some (i * w, w)) ps.toList).map (.bld z)
      | none => none
    | _, _ => none
  | .buildSlice t n ps =>
    match P.underlying t with
    | some (.slice e) =>
      match sizeC P e, zeroC P e, o.dst with
      | some w, some z, some d =>
        if 0 < w ∧ z.length = w ∧ n * w ≤ 2 ^ 24 then
          (partsC (fun i => some (i * w, w)) ps.toList).map fun p =>
            let zs := (List.range n).flatMap fun _ => z
            if n = 0 && ps.isEmpty && a.kp.contains (1000000 + key) then .bse else if a.mutb.contains d then .bsm n w zs p else .bsi n w zs p
        else none
      | _, _, _ => none
    | _ => none
  | .load t x => match aggC P t, sizeC P t, opdC x with
    | some g, some s, some (.t n) => if (g || s == 1) && decide (0 < s) then some (if a.ownv.contains (rootC ops 8 n) then .ldv (rootC ops 8 n) g s n else if a.imm.contains (rootC ops 8 n) then .ldi g s (.t n) else if a.kp.contains (3000000 + key) then .ld0 g s (.t n) else .ld g s (.t n)) else none
    | _, _, _ => none
  | .store t x y => match sizeC P t, opdC x, opdC y with
    | some s, some (.t n), some y' => some (if a.ownv.contains (rootC ops 8 n) then .stv (rootC ops 8 n) (look key [] a.nb) s n y' else (match look key none a.sx with | some os => .stc os s (.t n) y' | none => .st (look key [] a.nb) s (.t n) y'))
    | _, _, _ => none
  | .binOp b t x y _ =>
    match P.underlying t, opdC x, opdC y with
    | some (.int _), some x', some y' => some (.bin b x' y')
    | some .bool, some x', some y' => eqC P b t x' y'
    | some (.struct _), some x', some y' => eqC P b t x' y'
    | some (.array _ _), some x', some y' => eqC P b t x' y'
    | some .string, some x', some y' => (match b with | .add => some (.pur .scat [x', y']) | .eql => some (.pur (.seq false) [x', y']) | .neq => some (.pur (.seq true) [x', y']) | _ => none)
    | some (.pointer _), some x', some (.c .nilp) => isC true b x'
    | some (.pointer el), some x', some y' => if (P.info? el).isSome then (match b with | .eql => some (.me (.peq false) [x', y']) | .neq => some (.me (.peq true) [x', y']) | _ => none) else none
    | some (.slice _), some x', some (.c .nils) => isC false b x'
    | some (.interface _), some x', some (.c .nili) => (match b, y with | .eql, .const .nilIface => some (.isi false x') | .neq, .const .nilIface => some (.isi true x') | _, _ => none)
    | _, _, _ => none
  | .nilCheck x => (opdC x).map .nck
  | .unOp b _ x => (opdC x).map (.un b)
  | .convert s d x =>
    match P.underlying s, P.underlying d, opdC x with
    | some (.int _), some (.int k), some x' => some (.cvt k x')
    | some (.slice e), some .string, some x' => (match P.underlying e, sizeC P e with | some (.int .u8), some 1 => some (.me .b2s [x']) | _, _ => none)
    | some .string, some (.slice e), some x' => (match P.underlying e, sizeC P e with | some (.int .u8), some 1 => some (.me .s2b [x']) | _, _ => none)
    | some (.slice e), some (.slice _), some x' => if s = d then (match P.underlying e with | some (.int .u8) => some (.cvz x') | _ => none) else none
    | _, _, _ => none
  | .sliceToArrayPointer t x =>
    match P.underlying t, opdC x with
    | some (.array n e), some x' => (sizeC P e).map fun w => .me (.s2a n w) [x']
    | _, _ => none
  | .makeFunc (.func f) xs ys => match opdsC xs.toList, opdsC ys.toList with
    | some xs', some ys' => some (.mkf f xs' ys')
    | _, _ => none
  | .makeSlice t x y =>
    match P.underlying t with
    | some (.slice e) =>
      match sizeC P e, (P.info? e).map (·.bytes), zeroC P e, opdC x, opdC y with
      | some w, some b, some z, some x', some y' => if 0 < w ∧ 0 < b then some (.mks w b z x' y') else none
      | _, _, _, _, _ => none
    | _ => none
  | .slice t x lo hi mx =>
    match P.underlying t, opdC x, optC lo, optC hi, optC mx with
    | some (.slice e), some x', some lo', some hi', some mx' => (sizeC P e).map fun w => .slc w x' lo' hi' mx'
    | some (.array n e), some x', some lo', some hi', some none => (sizeC P e).map fun w => .slca n w x' lo' hi'
    | some .string, some x', some lo', some hi', some none => some (.pur (.ssub lo'.isSome hi'.isSome) (x' :: (lo'.toList ++ hi'.toList)))
    | _, _, _, _, _ => none
  | .fieldAddr s x i =>
    match P.underlying s, opdC x with
    | some (.struct fs), some x' =>
      match fieldsC P fs i with
      | some (off, sz) => if 0 < sz then some (.fadr off x') else none
      | none => none
    | _, _ => none
  | .field s x i =>
    match P.underlying s, opdC x with
    | some (.struct fs), some x' =>
      match fs[i]? with
      | some f => match aggC P f.type, sizeC P f.type with
        | some g, some sz => if g || sz == 1 then some (.fld g f.offset sz x') else none
        | _, _ => none
      | none => none
    | _, _ => none
  | .indexAddr t x i =>
    match P.underlying t, opdC x, opdC i with
    | some (.array n e), some x', some i' => (sizeC P e).map fun w => .idxA n w x' i'
    | some (.slice e), some x', some i' => (sizeC P e).map fun w => .idxS w x' i'
    | _, _, _ => none
  | .index t x i =>
    match P.underlying t, opdC x, opdC i with
    | some (.array n e), some x', some i' => match aggC P e, sizeC P e with
      | some g, some w => if g || w == 1 then some (.idxV g n w x' i') else none
      | _, _ => none
    | some .string, some x', some i' => some (.pur .sidx [x', i'])
    | _, _, _ => none
  | .extract x i => (opdC x).map (.ext · i)
  | .call c =>
    match c.callee with
    | .value f => match opdC f, opdsC c.args.toList with
      | some f', some xs => some (.call (a.kp.contains key) f' xs)
      | _, _ => none
    | .builtin .len =>
      match c.argTypes.toList, c.args.toList with
      | t :: _, x :: _ => match P.underlying t, opdC x with
        | some (.slice _), some x' => some (.lenS x')
        | some .string, some x' => some (.pur .slen [x'])
        | some (.map _ _), some x' => some (.mp .len [x'])
        | some (.array n _), _ => some (.lenC n)
        | some (.pointer r), _ => (match P.underlying r with | some (.array n _) => some (.lenC n) | _ => none)
        | _, _ => none
      | _, _ => none
    | .builtin .recover => some .rcv
    | .builtin .min => match c.args.toList with
      | [x, y] => (match opdC x, opdC y with | some x', some y' => some (.mn x' y') | _, _ => none)
      | _ => none
    | .builtin .max => match c.args.toList with
      | [x, y] => (match opdC x, opdC y with | some x', some y' => some (.mx x' y') | _, _ => none)
      | _ => none
    | .builtin .append =>
      match c.argTypes.toList, c.args.toList with
      | [t, u], [x, y] => match P.underlying t, P.underlying u, opdC x, opdC y with
        | some (.slice e), some uu, some x', some y' =>
          if rowish uu = true then (match sizeC P e, (P.info? e).map (·.bytes), zeroC P e with
          | some w, some b, some z => if 0 < w ∧ 0 < b ∧ b ≤ 2 ^ 20 ∧ z.length = w then
              some (if isNilSlice x && !(o.dst.any a.mutb.contains) then .cpi w b y' else if a.kp.contains (1000000 + key) && (tmpOf x).isSome then .ape w b ((tmpOf x).getD 0) y' else if a.kp.contains key then .apz w b x' y' else (match look key none a.sx with | some os => .apc os w b x' y' | none => .app w b x' y')) else none
          | _, _, _ => none) else none
        | _, _, _, _ => none
      | _, _ => none
    | _ => none
  | .makeInterface t x => if P.concrete t = true then (opdC x).map (.mki t) else none
  | .typeAssert x _ t ok =>
    match P.underlying t, opdC x with
    | some (.interface _), _ => none
    | some _, some x' => if ok then (zvC P t).map fun z => .tas t (some z) x' else some (.tas t none x')
    | _, _ => none
  | .panic x => (opdC x).map .pan
  | .makeMap _ none => some (.mp .make [])
  | .makeMap t (some (.const (.int _ _))) => (match P.underlying t with | some (.map _ _) => some (.mp .make []) | _ => none)
  | .range t x =>
    match P.underlying t, opdC x with
    | some (.map _ _), some x' => some (.mp .rng [x'])
    | _, _ => none
  | .entry x => (match opdC x with
    | some x' => some (.mp .ent [x'])
    | none => none)
  | .lookup t x i ok =>
    match P.underlying t, opdC x, opdC i with
    | some (.map kt et), some x', some i' => (match keyC P kt, zvC P et with
      | some ky, some z => some (.mp (.get ky z ok) [x', i'])
      | _, _ => none)
    | _, _, _ => none
  | .mapUpdate t m x y =>
    match P.underlying t, opdC m, opdC x, opdC y with
    | some (.map kt _), some m', some x', some y' => (match keyC P kt with
      | some ky => some (.mp (.put ky) [m', x', y'])
      | none => none)
    | _, _, _, _ => none
  | .insert t m x y =>
    match P.underlying t, opdC m, opdC x, opdC y with
    | some (.map kt _), some m', some x', some y' => (match keyC P kt with
      | some ky => some (.mp (.put ky) [m', x', y'])
      | none => none)
    | _, _, _, _ => none
  | _ => none

def K.makes : K → Bool
  | .alcv .. => true
  | .boxv _ => true
  | _ => false

def K.stvs : K → Bool
  | .stv .. => true
  | _ => false

def opC (P : Program) (a : Ann) (n reg : Nat) (ops : Array Oper) (ntr : Bool) (i : Nat) (o : Oper) : Option Op :=
  match kC P a ops (reg * 1000 + i) o with
  | some k =>
    match (match o.guard with
      | none => some none
      | some (j, b) => match (ops[j]?).bind (·.dst) with
        | some d => some (some (d, b))
        | none => none), (match o.dst with | some d => decide (d < n) | none => true) with
    | some g, true => if (match o.dst with | some d => !(a.ownv.contains d) || (k.makes && o.guard.isNone) | none => !k.makes) && (!k.stvs || o.dst.isNone) then some { dst := o.dst, grd := g, ntr, k } else none
    | _, _ => none
  | none => none

def opsC (P : Program) (a : Ann) (n reg : Nat) (ops : Array Oper) (tail : Nat) : Nat → List Oper → Option (List Op)
  | _, [] => some []
  | i, o :: r => match opC P a n reg ops (decide (i < tail) && !(a.kp.contains (reg * 1000 + i))) i o, opsC P a n reg ops tail (i + 1) r with
    | some x, some xs => some (x :: xs)
    | _, _ => none

def Mo.calm : Mo → Bool
  | .get .. => true
  | .len => true
  | .ent => true
  | _ => false

def K.calm : K → Bool
  | .st .. => false
  | .stc .. => false
  | .app .. => false
  | .apc .. => false
  | .apz .. => false
  | .cvz _ => false
  | .nilb _ => false
  | .alc .. => false
  | .boxm _ => false
  | .bxn .. => false
  | .bsm .. => false
  | .mks .. => false
  | .alcv nb _ => nb.isEmpty
  | .stv _ nb _ _ _ => nb.isEmpty
  | .mp o _ => o.calm
  | .pan _ => false
  | .rcv => false
  | _ => true

def K.pure : K → Bool
  | .ld .. => false
  | .ld0 .. => false
  | .slca .. => false
  | .cpi .. => false
  | .ape .. => false
  | .call .. => false
  | .mp .. => false
  | .me .. => false
  | k => k.calm

def Opd.tmps : Opd → List Nat
  | .t n => [n]
  | .c _ => []

def K.tmps : K → List Nat
  | .mv x => x.tmps
  | .nilb _ => []
  | .pick c a b => c.tmps ++ a.tmps ++ b.tmps
  | .alc .. => []
  | .alcv .. => []
  | .boxi x => x.tmps
  | .boxm x => x.tmps
  | .bxn _ x => x.tmps
  | .boxv x => x.tmps
  | .ldv v _ _ a => [v, a]
  | .stv v _ _ a x => [v, a] ++ x.tmps
  | .bld _ ps => ps.flatMap fun p => p.2.2.tmps
  | .bsi _ _ _ ps => ps.flatMap fun p => p.2.2.tmps
  | .bsm _ _ _ ps => ps.flatMap fun p => p.2.2.tmps
  | .ld _ _ a => a.tmps
  | .ldi _ _ a => a.tmps
  | .ld0 _ _ a => a.tmps
  | .isn _ _ x => x.tmps
  | .nck x => x.tmps
  | .st _ _ a x => a.tmps ++ x.tmps
  | .stc os _ a x => a.tmps ++ x.tmps ++ os
  | .bin _ x y => x.tmps ++ y.tmps
  | .eqv _ _ _ x y => x.tmps ++ y.tmps
  | .un _ x => x.tmps
  | .cvt _ x => x.tmps
  | .mkf _ xs ys => xs.flatMap Opd.tmps ++ ys.flatMap Opd.tmps
  | .mks _ _ _ l c => l.tmps ++ c.tmps
  | .slc _ x lo hi m => x.tmps ++ (lo.map Opd.tmps).getD [] ++ (hi.map Opd.tmps).getD [] ++ (m.map Opd.tmps).getD []
  | .slca _ _ x lo hi => x.tmps ++ (lo.map Opd.tmps).getD [] ++ (hi.map Opd.tmps).getD []
  | .fadr _ x => x.tmps
  | .fld _ _ _ x => x.tmps
  | .idxA _ _ x i => x.tmps ++ i.tmps
  | .idxS _ x i => x.tmps ++ i.tmps
  | .idxV _ _ _ x i => x.tmps ++ i.tmps
  | .lenS x => x.tmps
  | .lenC _ => []
  | .mn x y => x.tmps ++ y.tmps
  | .mx x y => x.tmps ++ y.tmps
  | .app _ _ s x => s.tmps ++ x.tmps
  | .apc os _ _ s x => s.tmps ++ x.tmps ++ os
  | .apz _ _ s x => s.tmps ++ x.tmps
  | .cpi _ _ x => x.tmps
  | .cvz x => x.tmps
  | .bse => []
  | .ape _ _ v x => v :: x.tmps
  | .ext x _ => x.tmps
  | .pur _ xs => xs.flatMap Opd.tmps
  | .mp _ xs => xs.flatMap Opd.tmps
  | .me _ xs => xs.flatMap Opd.tmps
  | .mki _ x => x.tmps
  | .tas _ _ x => x.tmps
  | .isi _ x => x.tmps
  | .pan x => x.tmps
  | .rcv => []
  | .call _ f xs => f.tmps ++ xs.flatMap Opd.tmps

def Op.uses (o : Op) : List Nat := (match o.grd with | some (g, _) => [g] | none => []) ++ o.k.tmps

def befores : List Oper → List Nat → List Nat
  | [], acc => acc
  | o :: r, acc => befores r (acc ++ [o.after.toList.foldl (fun s e => if Region.binds .any e then s ||| 2 ^ e.on ||| acc.getD e.on 0 else s) 0])

def tailOf (bs : List Nat) : Nat :=
  go bs.length
where
  go : Nat → Nat
    | 0 => 0
    | n + 1 => if bs.getD n 0 = 2 ^ n - 1 then go n else n + 1

def Op.defs (o : Op) : List Nat := o.dst.toList ++ (match o.k with | .stv v _ _ _ _ => [v] | _ => [])

def Op.clash (o p : Op) : Bool :=
  o.defs.any (fun d => p.defs.contains d || p.uses.contains d) || o.uses.any (fun d => p.defs.contains d)

def Op.still (op : Op) : Bool := op.k.calm && op.ntr

def Op.far (o p : Op) : Bool :=
  o.grd.isNone && p.grd.isNone &&
  match o.k, p.k with
  | .stc os _ _ _, .ld _ _ (.t m) => os.contains m
  | .ld _ _ (.t m), .stc os _ _ _ => os.contains m
  | .stc os _ _ _, .stc _ _ (.t m) _ => os.contains m
  | .apc os _ _ _ _, .ld _ _ (.t m) => os.contains m
  | .ld _ _ (.t _), .alc [] _ => true
  | .apc .., .ld0 _ _ (.t _) => true
  | _, _ => false

def Op.adr (o p : Op) : Bool :=
  match o, p with
  | ⟨none, none, _, .stv v [] _ a x⟩, ⟨some d, none, _, .fadr _ (.t m)⟩ => decide (m = v ∧ d ≠ v ∧ d ≠ a ∧ d ∉ x.tmps)
  | _, _ => false

def Op.free (o p : Op) : Bool := o.adr p || (!(o.clash p) && (o.still && p.still || o.k.pure || p.k.pure || o.far p))

def calmC (bs : List Nat) : Nat → List Op → Bool
  | _, [] => true
  | i, o :: r => after i (i + 1) o r && calmC bs (i + 1) r
where
  after (i : Nat) : Nat → Op → List Op → Bool
    | _, _, [] => true
    | j, o, p :: r => (o.free p || (bs.getD j 0).testBit i) && after i (j + 1) o r

def edgesOk : Nat → List Oper → Bool
  | _, [] => true
  | i, o :: r => (o.after.toList.all fun e => !Region.binds .any e || decide (e.on < i)) && edgesOk (i + 1) r

def cutC (live : List Nat) : Option Nat → List Op → Cmd
  | some j, xs => match xs.drop j with
    | x :: r => .treg live (xs.take j) x r
    | [] => .reg live xs
  | none, xs => .reg live xs

def regC (P : Program) (a : Ann) (n : Nat) (id : Nat) (ops : Array Oper) (draw : Bool) : Option Cmd :=
    if draw then
      let bs := befores ops.toList []
      let tail := tailOf bs
      match opsC P a n id ops tail 0 ops.toList with
      | some xs => if calmC bs 0 (xs.take tail) && edgesOk 0 ops.toList && xs.all (fun x => x.k != .rcv) then some (cutC (look id [] a.live) ((look id none a.thr).filter fun j => decide (tail ≤ j)) xs) else none
      | none => none
    else (opsC P a n id ops 0 0 ops.toList).map (cutC (look id [] a.live) (look id none a.thr))

def withFrz (c : Cmd) : List Nat → Cmd
  | [] => c
  | vs => .seq (.frz vs) c

def failC : Cmd := .reg [] [⟨none, none, false, .isn false false (.c .undef)⟩]

def dfrC : Code → Option (Opd × List Opd)
  | .region _ ops false =>
    match ops.toList with
    | [o] => (match o.op, o.dst, o.guard with
      | .defer c, none, none => (match c.callee with
        | .value f => (match opdC f, opdsC c.args.toList with
          | some f', some xs => some (f', xs)
          | _, _ => none)
        | _ => none)
      | _, _, _ => none)
    | _ => none
  | _ => none

def dfrM (P : Program) (a : Ann) (n : Nat) : Code → Option (Cmd × Opd × List Opd)
  | .region id ops false =>
    match ops.toList with
    | [m, o] => (match o.op, o.dst, o.guard, m.dst with
      | .defer c, none, none, some t => (match c.callee with
        | .value f => (match opC P a n id ops false 0 m, opdC f, opdsC c.args.toList with
          | some op, some f', some xs => if op.k = .rcv then none else some (.reg (t :: (xs.flatMap Opd.tmps ++ look id [] a.live)) [op], f', xs)
          | _, _, _ => none)
        | _ => none)
      | _, _, _, _ => none)
    | _ => none
  | _ => none

def mapC (a : Ann) (n : Nat) : Code → Option (Nat × Nat × Nat)
  | .loop (.seq (.region _ ops false) _) =>
    match ops.toList with
    | [o, p] => (match o.op, o.dst, o.guard, p.op, p.dst, p.guard with
      | .next (.tmp it) false, some nx, none, .extract (.tmp nx') 0, some ok, none =>
        if nx' = nx ∧ nx < n ∧ ok < n ∧ nx ≠ ok ∧ nx ∉ a.ownv ∧ ok ∉ a.ownv then some (it, nx, ok) else none
      | _, _, _, _, _, _ => none)
    | _ => none
  | _ => none

def blkC (a : Ann) (n id : Nat) (x : Code) (x' : Cmd) : Cmd :=
  match mapC a n x, x' with
  | some (it, nx, ok), .loop live _ (.seq _ c) => .mloop live (.t it) nx ok id c .nop
  | _, x' => .blk id x'

def seqC (P : Program) (a : Ann) (n : Nat) (x : Code) (x' y' : Cmd) : Cmd :=
  match dfrC x with
  | some (f, xs) => .dfr f xs y'
  | none =>
    match dfrM P a n x with
    | some (c, f, xs) => .seq c (.dfr f xs y')
    | none =>
    match x, x' with
    | .seq _ (.block _ _), .seq p' (.mloop live it nx ok b c .nop) => .seq p' (.mloop live it nx ok b c y')
    | _, _ => .seq x' y'

def scopeC (c : Cmd) : Cmd := match splitT c with | some _ => failC | none => .seq .nop c

def codeC (P : Program) (a : Ann) (n : Nat) (blk : Nat) : Code → Option Cmd
  | .skip => some .nop
  | .region id ops draw => match regC P a n id ops draw with
    | some c => some (withFrz c (look id [] a.fz))
    | none => some failC
  | .seq x y => match codeC P a n blk x, codeC P a n blk y with
    | some x', some y' => some (seqC P a n x x' y')
    | _, _ => none
  | .cond c x y => match opdC c, codeC P a n blk x, codeC P a n blk y with
    | some c', some x', some y' => some (.ite c' x' y')
    | _, _, _ => none
  | .block id x => (codeC P a n id x).map (blkC a n id x)
  | .loop x => (codeC P a n blk x).map (.loop (look blk [] a.llive) (a.seg.contains blk))
  | .rangeFunc f ps x y => match opdC f, codeC P a n blk x, codeC P a n blk y with
    | some f', some x', some y' => if ps.toList.all (fun t => decide (t < n) && !(a.ownv.contains t)) then some (.rngf (look blk [] a.llive) f' ps.toList x' y') else none
    | _, _, _ => none
  | .exit id => some (.exit id)
  | .ret => some .ret
  | .scope x => (codeC P a n blk x).map scopeC
  | .label _ => some .nop
  | _ => some failC

def resC (P : Program) (a : Ann) : ResultVar → Option Res
  | .tmp t => some (.t t)
  | .cell x t => match aggC P t, sizeC P t with
    | some g, some s => if (g || s == 1) && decide (0 < s) then some (if a.ownv.contains x then .v x g s else .c x g s) else none
    | _, _ => none

def ressC (P : Program) (a : Ann) : List ResultVar → Option (List Res)
  | [] => some []
  | r :: rs => match resC P a r, ressC P a rs with
    | some x, some xs => some (x :: xs)
    | _, _ => none

def fnC (P : Program) (a : Ann) (f : Func) : Option Fn :=
  match f.body with
  | some c => match codeC P a f.ntmps 0 c, ressC P a f.results.toList with
    | some c', some rs => if f.params.size + f.nfree ≤ f.ntmps then some { npar := f.params.size + f.nfree, res := rs, body := c' } else none
    | _, _ => none
  | none => none

end Go.Abs

/-
  Reading and writing rows of cells in the model's memory; the model's small questions on types.
-/
namespace Go.Abs
open Go

def Rd (w : World) (b o : Nat) (vs : List Value) : Prop := ∀ (j : Nat) x, vs[j]? = some x → w.cell? ⟨b, o + j, none⟩ = some x

theorem Rd.take {w : World} {b o : Nat} {vs : List Value} (h : Rd w b o vs) (n : Nat) : Rd w b o (vs.take n) := fun j x e => h j x (by
  rw [List.getElem?_take] at e; split at e <;> simp_all)

theorem Rd.drop {w : World} {b o : Nat} {vs : List Value} (h : Rd w b o vs) (n : Nat) : Rd w b (o + n) (vs.drop n) := fun j x e => by
  have := h (n + j) x (by rw [List.getElem?_drop] at e; exact e)
  rw [show o + n + j = o + (n + j) from by omega]; exact this

theorem add_eq (b o n : Nat) : Addr.add ⟨b, o, none⟩ n = ⟨b, o + n, none⟩ := by
  unfold Addr.add; split
  · subst_vars; rfl
  · rfl

section types
variable {P : Program} {t : TypeId}
theorem run_typeInfo {i : TypeInfo} (h : P.info? t = some i) (w : World) : (typeInfo t).run P w = .ok i w := by
  simp [typeInfo, h]
theorem run_sizeOf {s : Nat} (h : sizeC P t = some s) (w : World) : (sizeOf t).run P w = .ok s w := by
  simp only [sizeC, Option.map_eq_some_iff] at h
  obtain ⟨i, hi, rfl⟩ := h
  simp [sizeOf, run_typeInfo hi]
theorem run_under {d : TypeDesc} (h : P.underlying t = some d) (w : World) : (underlying t).run P w = .ok d w := by
  simp [underlying, h]
theorem run_isAgg {b : Bool} (h : aggC P t = some b) (w : World) : (isAgg t).run P w = .ok b w := by
  unfold aggC at h
  cases hu : P.underlying t with
  | none => simp [hu] at h
  | some d =>
    rw [hu] at h
    simp only [isAgg, Sem.run_bind, run_under hu, Result.andThen_ok]
    cases d <;> simp_all
theorem run_zeroValue {z : Value} {i : TypeInfo} (h : P.info? t = some i) (hz : i.zero = some z) (w : World) : (zeroValue t).run P w = .ok z w := by
  simp [zeroValue, run_typeInfo h, hz]
end types

theorem valD_rel (g : G) {v : Value} {d : D} (h : valD v = some d) : RelV g d v ∧ v.oneCell' = true := by
  unfold valD at h
  split at h <;> first | (cases h; exact ⟨by constructor, rfl⟩) | cases h

theorem cellsD_rel (g : G) {vs : List Value} {ds : List D} (h : cellsD vs = some ds) : RelL g ds vs ∧ ∀ x ∈ vs, x.oneCell' = true := by
  induction vs generalizing ds with
  | nil => simp only [cellsD, Option.some.injEq] at h; subst h; exact ⟨.nil, by simp⟩
  | cons v vs ih =>
    simp only [cellsD] at h
    split at h
    · rename_i d ds' h1 h2
      cases h
      obtain ⟨h3, h4⟩ := ih h2
      obtain ⟨h5, h6⟩ := valD_rel g h1
      exact ⟨.cons _ _ _ _ h5 h3, by simp only [List.mem_cons]; rintro x (rfl | hx); exact h6; exact h4 x hx⟩
    · cases h

theorem constD_rel (g : G) {v : Value} {d : D} (h : constD v = some d) : RelV g d v := by
  unfold constD at h
  split at h
  · rename_i cs
    simp only [Option.map_eq_some_iff] at h
    obtain ⟨ds, h1, rfl⟩ := h
    obtain ⟨h2, h3⟩ := cellsD_rel g h1
    exact .agg ds cs h2 h3
  · exact (valD_rel g h).1

theorem zeroC_rel {P : Program} {t : TypeId} (g : G) {z : List D} (h : zeroC P t = some z) : ∃ i v, P.info? t = some i ∧ i.zero = some v ∧ RelL g z v.cells.toList ∧ ∀ x ∈ v.cells.toList, x.oneCell' = true := by
  unfold zeroC at h
  split at h
  · rename_i i hi
    split at h
    · rename_i v hv
      obtain ⟨h2, h3⟩ := cellsD_rel g h
      exact ⟨i, v, hi, hv, h2, h3⟩
    · cases h
  · cases h

theorem run_loadVar {P : Program} {t : TypeId} {w : World} {b o sz : Nat} {ag : Bool} {vs : List Value} (hag : aggC P t = some ag) (hsz : sizeC P t = some sz) (hone : (ag || sz == 1) = true)
    (hr : Rd w b o vs) (hlen : sz ≤ vs.length) :
    ∃ v, (loadVar t ⟨b, o, none⟩).run P w = .ok v w ∧ (if ag then v = .agg (vs.take sz).toArray else ∃ x r, vs = x :: r ∧ v = x) := by
  cases ag with
  | true =>
    have h1 : (loadCells ⟨b, o, none⟩ sz).run P w = .ok (vs.take sz).toArray w := by
      have := run_loadCells_list (P := P) w ⟨b, o, none⟩ (vs.take sz) (fun j v e => by rw [add_eq]; exact hr.take sz j v e)
      rwa [List.length_take, Nat.min_eq_left hlen] at this
    exact ⟨_, by simp [loadVar, run_isAgg hag, run_sizeOf hsz, h1], rfl⟩
  | false =>
    simp only [Bool.false_or, beq_iff_eq] at hone
    subst hone
    cases vs with
    | nil => simp at hlen
    | cons x r =>
      have := hr 0 x rfl
      exact ⟨x, by simp only [Nat.add_zero] at this; simp [loadVar, run_isAgg hag, this], x, r, rfl, rfl⟩

theorem run_storeCells {P : Program} {b : Nat} {el : TypeId} : ∀ (ps : List Value) (w : World) (o i : Nat) (c : Array Value), (∀ x ∈ ps, x.oneCell' = true) →
    w.heap[b]? = some (.cells c el (0, 0)) → o + i + ps.length ≤ c.size →
    ∃ w' c', (storeCells ⟨b, o, none⟩ ps i).run P w = .ok () w' ∧ w'.heap[b]? = some (.cells c' el (0, 0)) ∧ c'.size = c.size ∧
      (∀ j, c'[j]? = if o + i ≤ j ∧ j < o + i + ps.length then ps[j - (o + i)]? else c[j]?) ∧
      (∀ x, x ≠ b → w'.heap[x]? = w.heap[x]?) ∧ w'.heap.size = w.heap.size ∧ w'.os = w.os ∧ w'.tape = w.tape ∧ w'.output = w.output
  | [], w, o, i, c, _, hb, _ => ⟨w, c, by simp [storeCells], hb, rfl, fun j => by rw [if_neg (by simp only [List.length_nil]; omega)], fun _ _ => rfl, rfl, rfl, rfl, rfl⟩
  | p :: ps, w, o, i, c, h1, hb, hl => by
    simp only [List.length_cons] at hl
    have hp := h1 p (by simp)
    have hcell : w.cell? ⟨b, o + i, none⟩ = some (c[o + i]'(by omega)) := by
      simp only [World.cell?, hb]; simp
    have hfz : w.frozen? ⟨b, o + i, none⟩ = false := by simp [World.frozen?, hb]
    have hb1 : (w.setCell ⟨b, o + i, none⟩ p).heap[b]? = some (.cells (c.setIfInBounds (o + i) p) el (0, 0)) := by
      simp [World.setCell, Array.getElem?_modify, hb]
    obtain ⟨w', c', hrun, hb', hs, hc, ho, hsz, e1, e2, e3⟩ := run_storeCells ps (w.setCell ⟨b, o + i, none⟩ p) o (i + 1) (c.setIfInBounds (o + i) p) (fun x hx => h1 x (by simp [hx])) hb1 (by simp; omega)
    refine ⟨w', c', ?_, hb', by simpa using hs, ?_, ?_, by simpa using hsz, e1, e2, e3⟩
    · simp only [storeCells, Sem.run_bind, add_eq, run_store P w _ p .plain hp, hcell, hfz]
      simpa using hrun
    · intro j
      rw [hc j]
      by_cases hj : j = o + i
      · subst hj
        rw [if_neg (by omega), if_pos (by simp)]
        rw [Array.getElem?_setIfInBounds_self_of_lt (by omega)]; simp
      · by_cases hj2 : o + (i + 1) ≤ j ∧ j < o + (i + 1) + ps.length
        · rw [if_pos hj2, if_pos (by simp; omega)]
          rw [show j - (o + i) = (j - (o + (i + 1))) + 1 from by omega]
          simp
        · rw [if_neg hj2, if_neg (by simp; omega)]
          rw [Array.getElem?_setIfInBounds_ne (by omega)]
    · intro x hx
      rw [ho x hx]
      simp only [World.setCell, Array.getElem?_modify]
      rw [if_neg (by simpa using fun e => hx e.symm)]

theorem run_storeVar {P : Program} {t : TypeId} {w : World} {b o sz : Nat} {el : TypeId} {c : Array Value} {v : Value} (hsz : sizeC P t = some sz) (hv : v.cells.size = sz)
    (h1 : ∀ x ∈ v.cells.toList, x.oneCell' = true) (hb : w.heap[b]? = some (.cells c el (0, 0))) (hl : o + sz ≤ c.size) :
    ∃ w' c', (storeVar t ⟨b, o, none⟩ v).run P w = .ok () w' ∧ w'.heap[b]? = some (.cells c' el (0, 0)) ∧ c'.size = c.size ∧
      (∀ j, c'[j]? = if o ≤ j ∧ j < o + sz then v.cells.toList[j - o]? else c[j]?) ∧
      (∀ x, x ≠ b → w'.heap[x]? = w.heap[x]?) ∧ w'.heap.size = w.heap.size ∧ w'.os = w.os ∧ w'.tape = w.tape ∧ w'.output = w.output := by
  obtain ⟨w', c', hrun, rest⟩ := run_storeCells (P := P) (b := b) (el := el) v.cells.toList w o 0 c h1 hb (by simp [hv]; omega)
  refine ⟨w', c', ?_, ?_⟩
  · simp only [storeVar, Sem.run_bind, run_sizeOf hsz, Result.andThen_ok, hv]
    simpa using hrun
  · simpa [hv] using rest

end Go.Abs
