/- The interpreter, part 1: proved sound against the model. -/
import Derived.Test.YtfgljaglidhjiaaGreatDoorBase0
import GoSem.Core.Program
import GoSem.Core.Layout
import Derived.AtR
import Derived.Laws.Build
import Derived.Laws.Cells
import Derived.Laws.Entries
import Derived.Laws.StructEq
import Derived.Laws.Strings2
import Derived.Laws.Slices
import Derived.Laws.Concat
import Derived.ChangeKeysEq
/-
  From the model's code to the small instruction set.
-/
namespace Go.Abs
open Go

structure Ann where
  live : List (Nat × List Nat)
  llive : List (Nat × List Nat)
  seg : List Nat
  mutb : List Nat
  ownv : List Nat
  nb : List (Nat × List (Nat × Nat))
  kp : List Nat
  fz : List (Nat × List Nat)
  imm : List Nat
  sx : List (Nat × Option (List Nat))
  thr : List (Nat × Option Nat) := []

def look {α : Type} (n : Nat) (d : α) : List (Nat × α) → α
  | [] => d
  | (k, v) :: r => if k = n then v else look n d r

def valD : Value → Option D
  | .bool b => some (.bool b)
  | .int k n => some (.int k n)
  | .string s => some (.str s.data.toList)
  | .pointer none => some .nilp
  | .slice none 0 0 => some .nils
  | .nilFunc => some .nilf
  | .nilIface => some .nili
  | .map none => some .undef
  | _ => none

def cellsD : List Value → Option (List D)
  | [] => some []
  | v :: vs => match valD v, cellsD vs with
    | some d, some ds => some (d :: ds)
    | _, _ => none

def constD : Value → Option D
  | .agg cs => (cellsD cs.toList).map .agg
  | v => valD v

def opdC : Operand → Option Opd
  | .tmp t => some (.t t)
  | .const v => (constD v).map .c
  | .func f => some (.c (.fn f [] []))
  | .global _ => none

def opdsC : List Operand → Option (List Opd)
  | [] => some []
  | x :: xs => match opdC x, opdsC xs with
    | some y, some ys => some (y :: ys)
    | _, _ => none

def optC : Option Operand → Option (Option Opd)
  | none => some none
  | some x => (opdC x).map some

def sizeC (P : Program) (t : TypeId) : Option Nat := (P.info? t).map (·.size)

def aggC (P : Program) (t : TypeId) : Option Bool :=
  match P.underlying t with
  | some (.struct _) | some (.array _ _) => some true
  | some _ => some false
  | none => none

def zeroC (P : Program) (t : TypeId) : Option (List D) :=
  match P.info? t with
  | some i => match i.zero with
    | some z => cellsD z.cells.toList
    | none => none
  | none => none

def isNilSlice : Operand → Bool
  | .const (.slice none 0 0) => true
  | _ => false

def partsC (place : Nat → Option (Nat × Nat)) : List (Nat × Operand) → Option (List (Nat × Nat × Opd))
  | [] => some []
  | (i, x) :: r => match place i, opdC x, partsC place r with
    | some (o, s), some y, some r' => some ((o, s, y) :: r')
    | _, _, _ => none

def fieldsC (P : Program) (fs : Array Field) (i : Nat) : Option (Nat × Nat) :=
  match fs[i]? with
  | some f => (sizeC P f.type).map fun s => (f.offset, s)
  | none => none

def kindsC (P : Program) : Nat → TypeId → Option (List (Option IntKind))
  | 0, _ => none
  | d + 1, t =>
    match P.underlying t with
    | some (.int k) => some [some k]
    | some .bool => some [none]
    | some (.struct fs) => if P.stoodInHeld t then none else kindsF P (kindsC P d) 0 fs.toList
    | some (.array n e) => match kindsC P d e with
      | some ks => if sizeC P e == some ks.length && decide (0 < ks.length) then some ((List.range n).flatMap fun _ => ks) else none
      | none => none
    | _ => none
where
  kindsF (P : Program) (f : TypeId → Option (List (Option IntKind))) (o : Nat) : List Field → Option (List (Option IntKind))
    | [] => some []
    | x :: r => match f x.type with
      | some ks => if x.name ≠ "_" ∧ x.offset = o ∧ sizeC P x.type = some ks.length ∧ 0 < ks.length then (kindsF P f (o + ks.length) r).map (ks ++ ·) else none
      | none => none

def zvC (P : Program) (t : TypeId) : Option D :=
  match P.info? t with
  | some i => match i.zero with
    | some z => constD z
    | none => none
  | none => none

def keyC (P : Program) (t : TypeId) : Option Ky :=
  match P.underlying t with
  | some .string => some none
  | some (.int k) => some (some (false, [some k]))
  | some (.struct fs) =>
    if fs.toList.all (fun f => match P.underlying f.type with | some (.int _) => true | some .bool => true | _ => false) then
      (kindsC P 20 t).map fun ks => some (true, ks)
    else none
  | _ => none

def eqC (P : Program) (b : BinOp) (t : TypeId) (x y : Opd) : Option K :=
  match kindsC P 20 t with
  | some ks => if P.eqGuardType P.depth t then none else
    match b with
    | .eql => (aggC P t).map fun ag => .eqv ag ks false x y
    | .neq => (aggC P t).map fun ag => .eqv ag ks true x y
    | _ => none
  | none => none

def rootC (ops : Array Oper) : Nat → Nat → Nat
  | 0, t => t
  | n + 1, t =>
    match ops.toList.find? (fun o => o.dst == some t) with
    | some o => match o.op with
      | .fieldAddr _ (.tmp x) _ => rootC ops n x
      | .indexAddr _ (.tmp x) _ => rootC ops n x
      | _ => t
    | none => t

def tmpOf : Operand → Option Nat
  | .tmp t => some t
  | _ => none

def isC (ps : Bool) (b : BinOp) (x : Opd) : Option K :=
  match b with
  | .eql => some (.isn ps false x)
  | .neq => some (.isn ps true x)
  | _ => none

def rowish : TypeDesc → Bool
  | .slice _ => true
  | .string => true
  | _ => false

def kC (P : Program) (a : Ann) (ops : Array Oper) (key : Nat) (o : Oper) : Option K :=
  match o.op with
  | .move x => (opdC x).map .mv
  | .assign x =>
    match isNilSlice x, P.underlying o.type, o.dst with
    | true, some (.slice e), some d => if a.mutb.contains d then (sizeC P e).map .nilb else (opdC x).map .mv
    | _, _, _ => (opdC x).map .mv
  | .pick c x y => match opdC c, opdC x, opdC y with
    | some c', some x', some y' => some (.pick c' x' y')
    | _, _, _ => none
  | .alloc e => match zeroC P e, o.dst with
    | some z, some d => if a.kp.contains (2000000 + key) then (match P.underlying e with
        | some (.struct fs) => (match fs.toList with
          | [_, f] => (match P.underlying f.type, z with
            | some (.slice b), [.nilp, .nils] => some (.mp (.bld e b) [])
            | _, _ => none)
          | _ => none)
        | _ => none) else some (if a.ownv.contains d then .alcv (look key [] a.nb) z else .alc (look key [] a.nb) z)
    | _, _ => none
  | .box _ x => match opdC x, o.dst with
    | some x', some d => some (if a.ownv.contains d then .boxv x' else if a.mutb.contains d then (match look key [] a.nb with | [] => .boxm x' | nb => .bxn nb x') else .boxi x')
    | _, _ => none
  | .build t ps =>
    match P.underlying t, zeroC P t with
    | some (.struct fs), some z => if fs.toList.all (fun f => (sizeC P f.type).isSome) then (partsC (fieldsC P fs) ps.toList).map (.bld z) else none
    | some (.array _ e), some z => match sizeC P e with
      | some w => (partsC (fun i => some (i * w, w)) ps.toList).map (.bld z)
      | none => none
    | _, _ => none
  | .buildSlice t n ps =>
    match P.underlying t with
    | some (.slice e) =>
      match sizeC P e, zeroC P e, o.dst with
      | some w, some z, some d =>
        if 0 < w ∧ z.length = w ∧ n * w ≤ 2 ^ 24 then
          (partsC (fun i => some (i * w, w)) ps.toList).map fun p =>
            let zs := (List.range n).flatMap fun _ => z
            if n = 0 && ps.isEmpty && a.kp.contains (1000000 + key) then .bse else if a.mutb.contains d then .bsm n w zs p else .bsi n w zs p
        else none
      | _, _, _ => none
    | _ => none
  | .load t x => match aggC P t, sizeC P t, opdC x with
    | some g, some s, some (.t n) => if (g || s == 1) && decide (0 < s) then some (if a.ownv.contains (rootC ops 8 n) then .ldv (rootC ops 8 n) g s n else if a.imm.contains (rootC ops 8 n) then .ldi g s (.t n) else if a.kp.contains (3000000 + key) then .ld0 g s (.t n) else .ld g s (.t n)) else none
    | _, _, _ => none
  | .store t x y => match sizeC P t, opdC x, opdC y with
    | some s, some (.t n), some y' => some (if a.ownv.contains (rootC ops 8 n) then .stv (rootC ops 8 n) (look key [] a.nb) s n y' else (match look key none a.sx with | some os => .stc os s (.t n) y' | none => .st (look key [] a.nb) s (.t n) y'))
    | _, _, _ => none
  | .binOp b t x y _ =>
    match P.underlying t, opdC x, opdC y with
    | some (.int _), some x', some y' => some (.bin b x' y')
    | some .bool, some x', some y' => eqC P b t x' y'
    | some (.struct _), some x', some y' => eqC P b t x' y'
    | some (.array _ _), some x', some y' => eqC P b t x' y'
    | some .string, some x', some y' => (match b with | .add => some (.pur .scat [x', y']) | .eql => some (.pur (.seq false) [x', y']) | .neq => some (.pur (.seq true) [x', y']) | _ => none)
    | some (.pointer _), some x', some (.c .nilp) => isC true b x'
    | some (.pointer el), some x', some y' => if (P.info? el).isSome then (match b with | .eql => some (.me (.peq false) [x', y']) | .neq => some (.me (.peq true) [x', y']) | _ => none) else none
    | some (.slice _), some x', some (.c .nils) => isC false b x'
    | some (.interface _), some x', some (.c .nili) => (match b, y with | .eql, .const .nilIface => some (.isi false x') | .neq, .const .nilIface => some (.isi true x') | _, _ => none)
    | _, _, _ => none
  | .nilCheck x => (opdC x).map .nck
  | .unOp b _ x => (opdC x).map (.un b)
  | .convert s d x =>
    match P.underlying s, P.underlying d, opdC x with
    | some (.int _), some (.int k), some x' => some (.cvt k x')
    | some (.slice e), some .string, some x' => (match P.underlying e, sizeC P e with | some (.int .u8), some 1 => some (.me .b2s [x']) | _, _ => none)
    | some .string, some (.slice e), some x' => (match P.underlying e, sizeC P e with | some (.int .u8), some 1 => some (.me .s2b [x']) | _, _ => none)
    | some (.slice e), some (.slice _), some x' => if s = d then (match P.underlying e with | some (.int .u8) => some (.cvz x') | _ => none) else none
    | _, _, _ => none
  | .sliceToArrayPointer t x =>
    match P.underlying t, opdC x with
    | some (.array n e), some x' => (sizeC P e).map fun w => .me (.s2a n w) [x']
    | _, _ => none
  | .makeFunc (.func f) xs ys => match opdsC xs.toList, opdsC ys.toList with
    | some xs', some ys' => some (.mkf f xs' ys')
    | _, _ => none
  | .makeSlice t x y =>
    match P.underlying t with
    | some (.slice e) =>
      match sizeC P e, (P.info? e).map (·.bytes), zeroC P e, opdC x, opdC y with
      | some w, some b, some z, some x', some y' => if 0 < w ∧ 0 < b then some (.mks w b z x' y') else none
      | _, _, _, _, _ => none
    | _ => none
  | .slice t x lo hi mx =>
    match P.underlying t, opdC x, optC lo, optC hi, optC mx with
    | some (.slice e), some x', some lo', some hi', some mx' => (sizeC P e).map fun w => .slc w x' lo' hi' mx'
    | some (.array n e), some x', some lo', some hi', some none => (sizeC P e).map fun w => .slca n w x' lo' hi'
    | some .string, some x', some lo', some hi', some none => some (.pur (.ssub lo'.isSome hi'.isSome) (x' :: (lo'.toList ++ hi'.toList)))
    | _, _, _, _, _ => none
  | .fieldAddr s x i =>
    match P.underlying s, opdC x with
    | some (.struct fs), some x' =>
      match fieldsC P fs i with
      | some (off, sz) => if 0 < sz then some (.fadr off x') else none
      | none => none
    | _, _ => none
  | .field s x i =>
    match P.underlying s, opdC x with
    | some (.struct fs), some x' =>
      match fs[i]? with
      | some f => match aggC P f.type, sizeC P f.type with
        | some g, some sz => if g || sz == 1 then some (.fld g f.offset sz x') else none
        | _, _ => none
      | none => none
    | _, _ => none
  | .indexAddr t x i =>
    match P.underlying t, opdC x, opdC i with
    | some (.array n e), some x', some i' => (sizeC P e).map fun w => .idxA n w x' i'
    | some (.slice e), some x', some i' => (sizeC P e).map fun w => .idxS w x' i'
    | _, _, _ => none
  | .index t x i =>
    match P.underlying t, opdC x, opdC i with
    | some (.array n e), some x', some i' => match aggC P e, sizeC P e with
      | some g, some w => if g || w == 1 then some (.idxV g n w x' i') else none
      | _, _ => none
    | some .string, some x', some i' => some (.pur .sidx [x', i'])
    | _, _, _ => none
  | .extract x i => (opdC x).map (.ext · i)
  | .call c =>
    match c.callee with
    | .value f => match opdC f, opdsC c.args.toList with
      | some f', some xs => some (.call (a.kp.contains key) f' xs)
      | _, _ => none
    | .builtin .len =>
      match c.argTypes.toList, c.args.toList with
      | t :: _, x :: _ => match P.underlying t, opdC x with
        | some (.slice _), some x' => some (.lenS x')
        | some .string, some x' => some (.pur .slen [x'])
        | some (.map _ _), some x' => some (.mp .len [x'])
        | some (.array n _), _ => some (.lenC n)
        | some (.pointer r), _ => (match P.underlying r with | some (.array n _) => some (.lenC n) | _ => none)
        | _, _ => none
      | _, _ => none
    | .builtin .recover => some .rcv
    | .builtin .min => match c.args.toList with
      | [x, y] => (match opdC x, opdC y with | some x', some y' => some (.mn x' y') | _, _ => none)
      | _ => none
    | .builtin .max => match c.args.toList with
      | [x, y] => (match opdC x, opdC y with | some x', some y' => some (.mx x' y') | _, _ => none)
      | _ => none
    | .builtin .append =>
      match c.argTypes.toList, c.args.toList with
      | [t, u], [x, y] => match P.underlying t, P.underlying u, opdC x, opdC y with
        | some (.slice e), some uu, some x', some y' =>
          if rowish uu = true then (match sizeC P e, (P.info? e).map (·.bytes), zeroC P e with
          | some w, some b, some z => if 0 < w ∧ 0 < b ∧ b ≤ 2 ^ 20 ∧ z.length = w then
              some (if isNilSlice x && !(o.dst.any a.mutb.contains) then .cpi w b y' else if a.kp.contains (1000000 + key) && (tmpOf x).isSome then .ape w b ((tmpOf x).getD 0) y' else if a.kp.contains key then .apz w b x' y' else (match look key none a.sx with | some os => .apc os w b x' y' | none => .app w b x' y')) else none
          | _, _, _ => none) else none
        | _, _, _, _ => none
      | _, _ => none
    | _ => none
  | .makeInterface t x => if P.concrete t = true then (opdC x).map (.mki t) else none
  | .typeAssert x _ t ok =>
    match P.underlying t, opdC x with
    | some (.interface _), _ => none
    | some _, some x' => if ok then (zvC P t).map fun z => .tas t (some z) x' else some (.tas t none x')
    | _, _ => none
  | .panic x => (opdC x).map .pan
  | .makeMap _ none => some (.mp .make [])
  | .makeMap t (some (.const (.int _ _))) => (match P.underlying t with | some (.map _ _) => some (.mp .make []) | _ => none)
  | .range t x =>
    match P.underlying t, opdC x with
    | some (.map _ _), some x' => some (.mp .rng [x'])
    | _, _ => none
  | .entry x => (match opdC x with
    | some x' => some (.mp .ent [x'])
    | none => none)
  | .lookup t x i ok =>
    match P.underlying t, opdC x, opdC i with
    | some (.map kt et), some x', some i' => (match keyC P kt, zvC P et with
      | some ky, some z => some (.mp (.get ky z ok) [x', i'])
      | _, _ => none)
    | _, _, _ => none
  | .mapUpdate t m x y =>
    match P.underlying t, opdC m, opdC x, opdC y with
    | some (.map kt _), some m', some x', some y' => (match keyC P kt with
      | some ky => some (.mp (.put ky) [m', x', y'])
      | none => none)
    | _, _, _, _ => none
  | .insert t m x y =>
    match P.underlying t, opdC m, opdC x, opdC y with
    | some (.map kt _), some m', some x', some y' => (match keyC P kt with
      | some ky => some (.mp (.put ky) [m', x', y'])
      | none => none)
    | _, _, _, _ => none
  | _ => none

def K.makes : K → Bool
  | .alcv .. => true
  | .boxv _ => true
  | _ => false

def K.stvs : K → Bool
  | .stv .. => true
  | _ => false

def opC (P : Program) (a : Ann) (n reg : Nat) (ops : Array Oper) (ntr : Bool) (i : Nat) (o : Oper) : Option Op :=
  match kC P a ops (reg * 1000 + i) o with
  | some k =>
    match (match o.guard with
      | none => some none
      | some (j, b) => match (ops[j]?).bind (·.dst) with
        | some d => some (some (d, b))
        | none => none), (match o.dst with | some d => decide (d < n) | none => true) with
    | some g, true => if (match o.dst with | some d => !(a.ownv.contains d) || (k.makes && o.guard.isNone) | none => !k.makes) && (!k.stvs || o.dst.isNone) then some { dst := o.dst, grd := g, ntr, k } else none
    | _, _ => none
  | none => none

def opsC (P : Program) (a : Ann) (n reg : Nat) (ops : Array Oper) (tail : Nat) : Nat → List Oper → Option (List Op)
  | _, [] => some []
  | i, o :: r => match opC P a n reg ops (decide (i < tail) && !(a.kp.contains (reg * 1000 + i))) i o, opsC P a n reg ops tail (i + 1) r with
    | some x, some xs => some (x :: xs)
    | _, _ => none

def Mo.calm : Mo → Bool
  | .get .. => true
  | .len => true
  | .ent => true
  | _ => false

def K.calm : K → Bool
  | .st .. => false
  | .stc .. => false
  | .app .. => false
  | .apc .. => false
  | .apz .. => false
  | .cvz _ => false
  | .nilb _ => false
  | .alc .. => false
  | .boxm _ => false
  | .bxn .. => false
  | .bsm .. => false
  | .mks .. => false
  | .alcv nb _ => nb.isEmpty
  | .stv _ nb _ _ _ => nb.isEmpty
  | .mp o _ => o.calm
  | .pan _ => false
  | .rcv => false
  | _ => true

def K.pure : K → Bool
  | .ld .. => false
  | .ld0 .. => false
  | .slca .. => false
  | .cpi .. => false
  | .ape .. => false
  | .call .. => false
  | .mp .. => false
  | .me .. => false
  | k => k.calm

def Opd.tmps : Opd → List Nat
  | .t n => [n]
  | .c _ => []

def K.tmps : K → List Nat
  | .mv x => x.tmps
  | .nilb _ => []
  | .pick c a b => c.tmps ++ a.tmps ++ b.tmps
  | .alc .. => []
  | .alcv .. => []
  | .boxi x => x.tmps
  | .boxm x => x.tmps
  | .bxn _ x => x.tmps
  | .boxv x => x.tmps
  | .ldv v _ _ a => [v, a]
  | .stv v _ _ a x => [v, a] ++ x.tmps
  | .bld _ ps => ps.flatMap fun p => p.2.2.tmps
  | .bsi _ _ _ ps => ps.flatMap fun p => p.2.2.tmps
  | .bsm _ _ _ ps => ps.flatMap fun p => p.2.2.tmps
  | .ld _ _ a => a.tmps
  | .ldi _ _ a => a.tmps
  | .ld0 _ _ a => a.tmps
  | .isn _ _ x => x.tmps
  | .nck x => x.tmps
  | .st _ _ a x => a.tmps ++ x.tmps
  | .stc os _ a x => a.tmps ++ x.tmps ++ os
  | .bin _ x y => x.tmps ++ y.tmps
  | .eqv _ _ _ x y => x.tmps ++ y.tmps
  | .un _ x => x.tmps
  | .cvt _ x => x.tmps
  | .mkf _ xs ys => xs.flatMap Opd.tmps ++ ys.flatMap Opd.tmps
  | .mks _ _ _ l c => l.tmps ++ c.tmps
  | .slc _ x lo hi m => x.tmps ++ (lo.map Opd.tmps).getD [] ++ (hi.map Opd.tmps).getD [] ++ (m.map Opd.tmps).getD []
  | .slca _ _ x lo hi => x.tmps ++ (lo.map Opd.tmps).getD [] ++ (hi.map Opd.tmps).getD []
  | .fadr _ x => x.tmps
  | .fld _ _ _ x => x.tmps
  | .idxA _ _ x i => x.tmps ++ i.tmps
  | .idxS _ x i => x.tmps ++ i.tmps
  | .idxV _ _ _ x i => x.tmps ++ i.tmps
  | .lenS x => x.tmps
  | .lenC _ => []
  | .mn x y => x.tmps ++ y.tmps
  | .mx x y => x.tmps ++ y.tmps
  | .app _ _ s x => s.tmps ++ x.tmps
  | .apc os _ _ s x => s.tmps ++ x.tmps ++ os
  | .apz _ _ s x => s.tmps ++ x.tmps
  | .cpi _ _ x => x.tmps
  | .cvz x => x.tmps
  | .bse => []
  | .ape _ _ v x => v :: x.tmps
  | .ext x _ => x.tmps
  | .pur _ xs => xs.flatMap Opd.tmps
  | .mp _ xs => xs.flatMap Opd.tmps
  | .me _ xs => xs.flatMap Opd.tmps
  | .mki _ x => x.tmps
  | .tas _ _ x => x.tmps
  | .isi _ x => x.tmps
  | .pan x => x.tmps
  | .rcv => []
  | .call _ f xs => f.tmps ++ xs.flatMap Opd.tmps

def Op.uses (o : Op) : List Nat := (match o.grd with | some (g, _) => [g] | none => []) ++ o.k.tmps

def befores : List Oper → List Nat → List Nat
  | [], acc => acc
  | o :: r, acc => befores r (acc ++ [o.after.toList.foldl (fun s e => if Region.binds .any e then s ||| 2 ^ e.on ||| acc.getD e.on 0 else s) 0])

def tailOf (bs : List Nat) : Nat :=
  go bs.length
where
  go : Nat → Nat
    | 0 => 0
    | n + 1 => if bs.getD n 0 = 2 ^ n - 1 then go n else n + 1

def Op.defs (o : Op) : List Nat := o.dst.toList ++ (match o.k with | .stv v _ _ _ _ => [v] | _ => [])

def Op.clash (o p : Op) : Bool :=
  o.defs.any (fun d => p.defs.contains d || p.uses.contains d) || o.uses.any (fun d => p.defs.contains d)

def Op.still (op : Op) : Bool := op.k.calm && op.ntr

def Op.far (o p : Op) : Bool :=
  o.grd.isNone && p.grd.isNone &&
  match o.k, p.k with
  | .stc os _ _ _, .ld _ _ (.t m) => os.contains m
  | .ld _ _ (.t m), .stc os _ _ _ => os.contains m
  | .stc os _ _ _, .stc _ _ (.t m) _ => os.contains m
  | .apc os _ _ _ _, .ld _ _ (.t m) => os.contains m
  | .ld _ _ (.t _), .alc [] _ => true
  | .apc .., .ld0 _ _ (.t _) => true
  | _, _ => false

def Op.adr (o p : Op) : Bool :=
  match o, p with
  | ⟨none, none, _, .stv v [] _ a x⟩, ⟨some d, none, _, .fadr _ (.t m)⟩ => decide (m = v ∧ d ≠ v ∧ d ≠ a ∧ d ∉ x.tmps)
  | _, _ => false

def Op.free (o p : Op) : Bool := o.adr p || (!(o.clash p) && (o.still && p.still || o.k.pure || p.k.pure || o.far p))

def calmC (bs : List Nat) : Nat → List Op → Bool
  | _, [] => true
  | i, o :: r => after i (i + 1) o r && calmC bs (i + 1) r
where
  after (i : Nat) : Nat → Op → List Op → Bool
    | _, _, [] => true
    | j, o, p :: r => (o.free p || (bs.getD j 0).testBit i) && after i (j + 1) o r

def edgesOk : Nat → List Oper → Bool
  | _, [] => true
  | i, o :: r => (o.after.toList.all fun e => !Region.binds .any e || decide (e.on < i)) && edgesOk (i + 1) r

def cutC (live : List Nat) : Option Nat → List Op → Cmd
  | some j, xs => match xs.drop j with
    | x :: r => .treg live (xs.take j) x r
    | [] => .reg live xs
  | none, xs => .reg live xs

def regC (P : Program) (a : Ann) (n : Nat) (id : Nat) (ops : Array Oper) (draw : Bool) : Option Cmd :=
    if draw then
      let bs := befores ops.toList []
      let tail := tailOf bs
      match opsC P a n id ops tail 0 ops.toList with
      | some xs => if calmC bs 0 (xs.take tail) && edgesOk 0 ops.toList && xs.all (fun x => x.k != .rcv) then some (cutC (look id [] a.live) ((look id none a.thr).filter fun j => decide (tail ≤ j)) xs) else none
      | none => none
    else (opsC P a n id ops 0 0 ops.toList).map (cutC (look id [] a.live) (look id none a.thr))

def withFrz (c : Cmd) : List Nat → Cmd
  | [] => c
  | vs => .seq (.frz vs) c

def failC : Cmd := .reg [] [⟨none, none, false, .isn false false (.c .undef)⟩]

def dfrC : Code → Option (Opd × List Opd)
  | .region _ ops false =>
    match ops.toList with
    | [o] => (match o.op, o.dst, o.guard with
      | .defer c, none, none => (match c.callee with
        | .value f => (match opdC f, opdsC c.args.toList with
          | some f', some xs => some (f', xs)
          | _, _ => none)
        | _ => none)
      | _, _, _ => none)
    | _ => none
  | _ => none

def dfrM (P : Program) (a : Ann) (n : Nat) : Code → Option (Cmd × Opd × List Opd)
  | .region id ops false =>
    match ops.toList with
    | [m, o] => (match o.op, o.dst, o.guard, m.dst with
      | .defer c, none, none, some t => (match c.callee with
        | .value f => (match opC P a n id ops false 0 m, opdC f, opdsC c.args.toList with
          | some op, some f', some xs => if op.k = .rcv then none else some (.reg (t :: (xs.flatMap Opd.tmps ++ look id [] a.live)) [op], f', xs)
          | _, _, _ => none)
        | _ => none)
      | _, _, _, _ => none)
    | _ => none
  | _ => none

def mapC (a : Ann) (n : Nat) : Code → Option (Nat × Nat × Nat)
  | .loop (.seq (.region _ ops false) _) =>
    match ops.toList with
    | [o, p] => (match o.op, o.dst, o.guard, p.op, p.dst, p.guard with
      | .next (.tmp it) false, some nx, none, .extract (.tmp nx') 0, some ok, none =>
        if nx' = nx ∧ nx < n ∧ ok < n ∧ nx ≠ ok ∧ nx ∉ a.ownv ∧ ok ∉ a.ownv then some (it, nx, ok) else none
      | _, _, _, _, _, _ => none)
    | _ => none
  | _ => none

def blkC (a : Ann) (n id : Nat) (x : Code) (x' : Cmd) : Cmd :=
  match mapC a n x, x' with
  | some (it, nx, ok), .loop live _ (.seq _ c) => .mloop live (.t it) nx ok id c .nop
  | _, x' => .blk id x'

def seqC (P : Program) (a : Ann) (n : Nat) (x : Code) (x' y' : Cmd) : Cmd :=
  match dfrC x with
  | some (f, xs) => .dfr f xs y'
  | none =>
    match dfrM P a n x with
    | some (c, f, xs) => .seq c (.dfr f xs y')
    | none =>
    match x, x' with
    | .seq _ (.block _ _), .seq p' (.mloop live it nx ok b c .nop) => .seq p' (.mloop live it nx ok b c y')
    | _, _ => .seq x' y'

def scopeC (c : Cmd) : Cmd := match splitT c with | some _ => failC | none => .seq .nop c

def codeC (P : Program) (a : Ann) (n : Nat) (blk : Nat) : Code → Option Cmd
  | .skip => some .nop
  | .region id ops draw => match regC P a n id ops draw with
    | some c => some (withFrz c (look id [] a.fz))
    | none => some failC
  | .seq x y => match codeC P a n blk x, codeC P a n blk y with
    | some x', some y' => some (seqC P a n x x' y')
    | _, _ => none
  | .cond c x y => match opdC c, codeC P a n blk x, codeC P a n blk y with
    | some c', some x', some y' => some (.ite c' x' y')
    | _, _, _ => none
  | .block id x => (codeC P a n id x).map (blkC a n id x)
  | .loop x => (codeC P a n blk x).map (.loop (look blk [] a.llive) (a.seg.contains blk))
  | .rangeFunc f ps x y => match opdC f, codeC P a n blk x, codeC P a n blk y with
    | some f', some x', some y' => if ps.toList.all (fun t => decide (t < n) && !(a.ownv.contains t)) then some (.rngf (look blk [] a.llive) f' ps.toList x' y') else none
    | _, _, _ => none
  | .exit id => some (.exit id)
  | .ret => some .ret
  | .scope x => (codeC P a n blk x).map scopeC
  | .label _ => some .nop
  | _ => some failC

def resC (P : Program) (a : Ann) : ResultVar → Option Res
  | .tmp t => some (.t t)
  | .cell x t => match aggC P t, sizeC P t with
    | some g, some s => if (g || s == 1) && decide (0 < s) then some (if a.ownv.contains x then .v x g s else .c x g s) else none
    | _, _ => none

def ressC (P : Program) (a : Ann) : List ResultVar → Option (List Res)
  | [] => some []
  | r :: rs => match resC P a r, ressC P a rs with
    | some x, some xs => some (x :: xs)
    | _, _ => none

def fnC (P : Program) (a : Ann) (f : Func) : Option Fn :=
  match f.body with
  | some c => match codeC P a f.ntmps 0 c, ressC P a f.results.toList with
    | some c', some rs => if f.params.size + f.nfree ≤ f.ntmps then some { npar := f.params.size + f.nfree, res := rs, body := c' } else none
    | _, _ => none
  | none => none

end Go.Abs

/-
  Reading and writing rows of cells in the model's memory; the model's small questions on types.
-/
namespace Go.Abs
open Go

def Rd (w : World) (b o : Nat) (vs : List Value) : Prop := ∀ (j : Nat) x, vs[j]? = some x → w.cell? ⟨b, o + j, none⟩ = some x

theorem Rd.take {w : World} {b o : Nat} {vs : List Value} (h : Rd w b o vs) (n : Nat) : Rd w b o (vs.take n) := fun j x e => h j x (by
  rw [List.getElem?_take] at e; split at e <;> simp_all)

theorem Rd.drop {w : World} {b o : Nat} {vs : List Value} (h : Rd w b o vs) (n : Nat) : Rd w b (o + n) (vs.drop n) := fun j x e => by
  have := h (n + j) x (by rw [List.getElem?_drop] at e; exact e)
  rw [show o + n + j = o + (n + j) from by omega]; exact this

theorem add_eq (b o n : Nat) : Addr.add ⟨b, o, none⟩ n = ⟨b, o + n, none⟩ := by
  unfold Addr.add; split
  · subst_vars; rfl
  · rfl

section types
variable {P : Program} {t : TypeId}
theorem run_typeInfo {i : TypeInfo} (h : P.info? t = some i) (w : World) : (typeInfo t).run P w = .ok i w := by
  simp [typeInfo, h]
theorem run_sizeOf {s : Nat} (h : sizeC P t = some s) (w : World) : (sizeOf t).run P w = .ok s w := by
  simp only [sizeC, Option.map_eq_some_iff] at h
  obtain ⟨i, hi, rfl⟩ := h
  simp [sizeOf, run_typeInfo hi]
theorem run_under {d : TypeDesc} (h : P.underlying t = some d) (w : World) : (underlying t).run P w = .ok d w := by
  simp [underlying, h]
theorem run_isAgg {b : Bool} (h : aggC P t = some b) (w : World) : (isAgg t).run P w = .ok b w := by
  unfold aggC at h
  cases hu : P.underlying t with
  | none => simp [hu] at h
  | some d =>
    rw [hu] at h
    simp only [isAgg, Sem.run_bind, run_under hu, Result.andThen_ok]
    cases d <;> simp_all
theorem run_zeroValue {z : Value} {i : TypeInfo} (h : P.info? t = some i) (hz : i.zero = some z) (w : World) : (zeroValue t).run P w = .ok z w := by
  simp [zeroValue, run_typeInfo h, hz]
end types

theorem valD_rel (g : G) {v : Value} {d : D} (h : valD v = some d) : RelV g d v ∧ v.oneCell' = true := by
  unfold valD at h
  split at h <;> first | (cases h; exact ⟨by constructor, rfl⟩) | cases h

theorem cellsD_rel (g : G) {vs : List Value} {ds : List D} (h : cellsD vs = some ds) : RelL g ds vs ∧ ∀ x ∈ vs, x.oneCell' = true := by
  induction vs generalizing ds with
  | nil => simp only [cellsD, Option.some.injEq] at h; subst h; exact ⟨.nil, by simp⟩
  | cons v vs ih =>
    simp only [cellsD] at h
    split at h
    · rename_i d ds' h1 h2
      cases h
      obtain ⟨h3, h4⟩ := ih h2
      obtain ⟨h5, h6⟩ := valD_rel g h1
      exact ⟨.cons _ _ _ _ h5 h3, by simp only [List.mem_cons]; rintro x (rfl | hx); exact h6; exact h4 x hx⟩
    · cases h

theorem constD_rel (g : G) {v : Value} {d : D} (h : constD v = some d) : RelV g d v := by
  unfold constD at h
  split at h
  · rename_i cs
    simp only [Option.map_eq_some_iff] at h
    obtain ⟨ds, h1, rfl⟩ := h
    obtain ⟨h2, h3⟩ := cellsD_rel g h1
    exact .agg ds cs h2 h3
  · exact (valD_rel g h).1

theorem zeroC_rel {P : Program} {t : TypeId} (g : G) {z : List D} (h : zeroC P t = some z) : ∃ i v, P.info? t = some i ∧ i.zero = some v ∧ RelL g z v.cells.toList ∧ ∀ x ∈ v.cells.toList, x.oneCell' = true := by
  unfold zeroC at h
  split at h
  · rename_i i hi
    split at h
    · rename_i v hv
      obtain ⟨h2, h3⟩ := cellsD_rel g h
      exact ⟨i, v, hi, hv, h2, h3⟩
    · cases h
  · cases h

theorem run_loadVar {P : Program} {t : TypeId} {w : World} {b o sz : Nat} {ag : Bool} {vs : List Value} (hag : aggC P t = some ag) (hsz : sizeC P t = some sz) (hone : (ag || sz == 1) = true)
    (hr : Rd w b o vs) (hlen : sz ≤ vs.length) :
    ∃ v, (loadVar t ⟨b, o, none⟩).run P w = .ok v w ∧ (if ag then v = .agg (vs.take sz).toArray else ∃ x r, vs = x :: r ∧ v = x) := by
  cases ag with
  | true =>
    have h1 : (loadCells ⟨b, o, none⟩ sz).run P w = .ok (vs.take sz).toArray w := by
      have := run_loadCells_list (P := P) w ⟨b, o, none⟩ (vs.take sz) (fun j v e => by rw [add_eq]; exact hr.take sz j v e)
      rwa [List.length_take, Nat.min_eq_left hlen] at this
    exact ⟨_, by simp [loadVar, run_isAgg hag, run_sizeOf hsz, h1], rfl⟩
  | false =>
    simp only [Bool.false_or, beq_iff_eq] at hone
    subst hone
    cases vs with
    | nil => simp at hlen
    | cons x r =>
      have := hr 0 x rfl
      exact ⟨x, by simp only [Nat.add_zero] at this; simp [loadVar, run_isAgg hag, this], x, r, rfl, rfl⟩

theorem run_storeCells {P : Program} {b : Nat} {el : TypeId} : ∀ (ps : List Value) (w : World) (o i : Nat) (c : Array Value), (∀ x ∈ ps, x.oneCell' = true) →
    w.heap[b]? = some (.cells c el (0, 0)) → o + i + ps.length ≤ c.size →
    ∃ w' c', (storeCells ⟨b, o, none⟩ ps i).run P w = .ok () w' ∧ w'.heap[b]? = some (.cells c' el (0, 0)) ∧ c'.size = c.size ∧
      (∀ j, c'[j]? = if o + i ≤ j ∧ j < o + i + ps.length then ps[j - (o + i)]? else c[j]?) ∧
      (∀ x, x ≠ b → w'.heap[x]? = w.heap[x]?) ∧ w'.heap.size = w.heap.size ∧ w'.os = w.os ∧ w'.tape = w.tape ∧ w'.output = w.output
  | [], w, o, i, c, _, hb, _ => ⟨w, c, by simp [storeCells], hb, rfl, fun j => by rw [if_neg (by simp only [List.length_nil]; omega)], fun _ _ => rfl, rfl, rfl, rfl, rfl⟩
  | p :: ps, w, o, i, c, h1, hb, hl => by
    simp only [List.length_cons] at hl
    have hp := h1 p (by simp)
    have hcell : w.cell? ⟨b, o + i, none⟩ = some (c[o + i]'(by omega)) := by
      simp only [World.cell?, hb]; simp
    have hfz : w.frozen? ⟨b, o + i, none⟩ = false := by simp [World.frozen?, hb]
    have hb1 : (w.setCell ⟨b, o + i, none⟩ p).heap[b]? = some (.cells (c.setIfInBounds (o + i) p) el (0, 0)) := by
      simp [World.setCell, Array.getElem?_modify, hb]
    obtain ⟨w', c', hrun, hb', hs, hc, ho, hsz, e1, e2, e3⟩ := run_storeCells ps (w.setCell ⟨b, o + i, none⟩ p) o (i + 1) (c.setIfInBounds (o + i) p) (fun x hx => h1 x (by simp [hx])) hb1 (by simp; omega)
    refine ⟨w', c', ?_, hb', by simpa using hs, ?_, ?_, by simpa using hsz, e1, e2, e3⟩
    · simp only [storeCells, Sem.run_bind, add_eq, run_store P w _ p .plain hp, hcell, hfz]
      simpa using hrun
    · intro j
      rw [hc j]
      by_cases hj : j = o + i
      · subst hj
        rw [if_neg (by omega), if_pos (by simp)]
        rw [Array.getElem?_setIfInBounds_self_of_lt (by omega)]; simp
      · by_cases hj2 : o + (i + 1) ≤ j ∧ j < o + (i + 1) + ps.length
        · rw [if_pos hj2, if_pos (by simp; omega)]
          rw [show j - (o + i) = (j - (o + (i + 1))) + 1 from by omega]
          simp
        · rw [if_neg hj2, if_neg (by simp; omega)]
          rw [Array.getElem?_setIfInBounds_ne (by omega)]
    · intro x hx
      rw [ho x hx]
      simp only [World.setCell, Array.getElem?_modify]
      rw [if_neg (by simpa using fun e => hx e.symm)]

theorem run_storeVar {P : Program} {t : TypeId} {w : World} {b o sz : Nat} {el : TypeId} {c : Array Value} {v : Value} (hsz : sizeC P t = some sz) (hv : v.cells.size = sz)
    (h1 : ∀ x ∈ v.cells.toList, x.oneCell' = true) (hb : w.heap[b]? = some (.cells c el (0, 0))) (hl : o + sz ≤ c.size) :
    ∃ w' c', (storeVar t ⟨b, o, none⟩ v).run P w = .ok () w' ∧ w'.heap[b]? = some (.cells c' el (0, 0)) ∧ c'.size = c.size ∧
      (∀ j, c'[j]? = if o ≤ j ∧ j < o + sz then v.cells.toList[j - o]? else c[j]?) ∧
      (∀ x, x ≠ b → w'.heap[x]? = w.heap[x]?) ∧ w'.heap.size = w.heap.size ∧ w'.os = w.os ∧ w'.tape = w.tape ∧ w'.output = w.output := by
  obtain ⟨w', c', hrun, rest⟩ := run_storeCells (P := P) (b := b) (el := el) v.cells.toList w o 0 c h1 hb (by simp [hv]; omega)
  refine ⟨w', c', ?_, ?_⟩
  · simp only [storeVar, Sem.run_bind, run_sizeOf hsz, Result.andThen_ok, hv]
    simpa using hrun
  · simpa [hv] using rest

end Go.Abs

/-
  Each operation that is no call, no store into a variable of the frame's own: what the interpreter says is what the model does.
-/
set_option linter.unusedVariables false
set_option linter.unusedSimpArgs false
namespace Go.Abs
open Go

structure OwnB (base : Nat) (g : G) (w : World) (b : Nat) (cs : List D) : Prop where
  lo : base ≤ b
  free : ¬ g.has b
  noimm : ∀ o, g.imm b o = none
  blk : ∃ (c : Array Value) (el : TypeId), w.heap[b]? = some (.cells c el (0, 0)) ∧ RelL g cs c.toList ∧ ∀ x ∈ c.toList, x.oneCell' = true

theorem OwnB.lt {base : Nat} {g : G} {w : World} {b : Nat} {cs : List D} (h : OwnB base g w b cs) : b < w.heap.size := by
  obtain ⟨c, el, hb, _⟩ := h.blk
  exact (Array.getElem?_eq_some_iff.1 hb).1

theorem OwnB.ev {base : Nat} {g g' : G} {w w' : World} {b : Nat} {cs : List D} (h : OwnB base g w b cs) (he : Ev g w g' w') : OwnB base g' w' b cs where
  lo := h.lo
  free := fun hb => by
    rcases he.img b hb with h1 | h1
    · exact h.free h1
    · have := h.lt; omega
  noimm o := by
    cases e : g'.imm b o with
    | none => rfl
    | some v =>
      rcases he.immN b o v e with h1 | h1 | h1
      · rw [h.noimm o] at h1; cases h1
      · exact absurd h1 h.free
      · have := h.lt; omega
  blk := by
    obtain ⟨c, el, hb, hr, h1⟩ := h.blk
    exact ⟨c, el, (he.kept b h.lt h.free).trans hb, hr.mono he.le, h1⟩

def RelT (g : G) (B : Nat → Nat) (e : Env) : D → Value → Prop
  | .own .., _ => False
  | .vr x s off, c => ∃ s' cs b o, get e x = .own s' cs ∧ s ≤ s' ∧ c = .pointer (some ⟨b, o, none⟩) ∧ (s = s' → b = B x ∧ o = off)
  | .emp, c => ∃ a, c = .slice a 0 0
  | d, c => RelV g d c

def RelF (g : G) (B : Nat → Nat) (e : Env) : D → Value → Prop
  | .own .., _ => True
  | d, c => RelT g B e d c

structure Fr (base : Nat) (V : List Nat) (g : G) (w : World) (B : Nat → Nat) (e : Env) (tmps : Array Value) : Prop where
  rel : ∀ t, RelF g B e (get e t) (tmps.getD t Go.undef)
  own : ∀ t s cs, get e t = .own s cs → t ∈ V ∧ tmps.getD t Go.undef = .pointer (some ⟨B t, 0, none⟩) ∧ OwnB base g w (B t) cs
  inj : ∀ t t' s s' cs cs', get e t = .own s cs → get e t' = .own s' cs' → B t = B t' → t = t'

theorem RelT.ev {g g' : G} (h : g.le g') {B : Nat → Nat} {e : Env} {d : D} {c : Value} (hr : RelT g B e d c) : RelT g' B e d c := by
  cases d <;> first | exact hr | exact RelV.mono h hr

theorem RelF.ev {g g' : G} (h : g.le g') {B : Nat → Nat} {e : Env} {d : D} {c : Value} (hr : RelF g B e d c) : RelF g' B e d c := by
  cases d <;> first | exact hr | exact (RelV.mono h (by exact hr) : RelV g' _ c)

theorem Fr.ev {base : Nat} {V : List Nat} {g g' : G} {w w' : World} {B : Nat → Nat} {e : Env} {tmps : Array Value} (h : Fr base V g w B e tmps) (he : Ev g w g' w') : Fr base V g' w' B e tmps where
  rel t := (h.rel t).ev he.le
  own t s cs e1 := let ⟨h1, h2, h3⟩ := h.own t s cs e1; ⟨h1, h2, h3.ev he⟩
  inj := h.inj

section
variable {base fb : Nat} {V : List Nat} {g : G} {w : World} {B : Nat → Nat} {e : Env} {tmps : Array Value} {df : List Deferred}

theorem Fr.strip (h : Fr base V g w B e tmps) (t : Nat) : RelV g (get e t).strip (tmps.getD t Go.undef) := by
  have := h.rel t
  cases hd : get e t <;> rw [hd] at this <;> simp only [D.strip] <;> first | exact this | exact .undef _

theorem Fr.opd (h : Fr base V g w B e tmps) {x : Operand} {X : Opd} (hx : opdC x = some X) : RelV g (opd e X) ((Act.mk tmps df).eval x) := by
  cases x with
  | tmp t => simp only [opdC, Option.some.injEq] at hx; subst hx; exact h.strip t
  | const v =>
    simp only [opdC, Option.map_eq_some_iff] at hx
    obtain ⟨d, hd, rfl⟩ := hx
    exact constD_rel g hd
  | global n => simp [opdC] at hx
  | func f => simp only [opdC, Option.some.injEq] at hx; subst hx; exact .fn f [] [] #[] #[] .nil .nil

theorem Fr.opds (h : Fr base V g w B e tmps) {xs : List Operand} {Xs : List Opd} (hx : opdsC xs = some Xs) : RelL g (Xs.map (Abs.opd e)) (xs.map (Act.mk tmps df).eval) := by
  induction xs generalizing Xs with
  | nil => simp only [opdsC, Option.some.injEq] at hx; subst hx; exact .nil
  | cons x xs ih =>
    simp only [opdsC] at hx
    split at hx
    · rename_i y ys h1 h2
      cases hx
      exact .cons _ _ _ _ (h.opd h1) (ih h2)
    · cases hx
end

def outV : Next → Option Value
  | .value v => some v
  | .skip => some Go.undef
  | _ => none

def Does (P : Program) (CR : CRel) (base : Nat) (g : G) (w : World) (B : Nat → Nat) (e : Env) (ρ : Operand → Value) (o : Oper) (d : D) (σ' : Stack) : Prop :=
  ∃ x c g' w', (execOp ρ o).run P w = .ok x w' ∧ outV x = some c ∧ Ev g w g' w' ∧ Inv CR base g' σ' w' ∧ RelT g' B e d c

theorem Does.pure {P : Program} {CR : CRel} {base : Nat} {g : G} {w : World} {B : Nat → Nat} {e : Env} {ρ : Operand → Value} {o : Oper} {d : D} {σ : Stack} {c : Value}
    (hi : Inv CR base g σ w) (h : (execOp ρ o).run P w = .ok (.value c) w) (hr : RelT g B e d c) : Does P CR base g w B e ρ o d σ :=
  ⟨_, c, g, w, h, rfl, Ev.refl g w, hi, hr⟩

theorem Does.val {P : Program} {CR : CRel} {base : Nat} {g : G} {w : World} {B : Nat → Nat} {e : Env} {ρ : Operand → Value} {o : Oper} {d : D} {σ' : Stack} (c : Value) {g' : G} {w' : World}
    (h : (execOp ρ o).run P w = .ok (.value c) w') (he : Ev g w g' w') (hi : Inv CR base g' σ' w') (hr : RelT g' B e d c) : Does P CR base g w B e ρ o d σ' :=
  ⟨_, c, g', w', h, rfl, he, hi, hr⟩

theorem RelT.of {g : G} {B : Nat → Nat} {e : Env} {d : D} {c : Value} (h : RelV g d c) : RelT g B e d c := by
  cases h <;> (simp only [RelT]; first | (constructor <;> assumption) | (exact .bdv _ _ _ _ (by assumption) (by assumption)))

section inv
variable {g : G}
theorem RelV.int_inv {k : IntKind} {n : Int} {c : Value} (h : RelV g (.int k n) c) : c = .int k n := by cases h; rfl
theorem RelV.bool_inv {b : Bool} {c : Value} (h : RelV g (.bool b) c) : c = .bool b := by cases h; rfl
theorem intD_inv {d : D} {n : Int} {c : Value} (h : RelV g d c) (hn : intD d = some n) : ∃ k, c = .int k n := by
  unfold intD at hn
  split at hn
  · cases hn; exact ⟨_, h.int_inv⟩
  · cases hn
end inv

section ops
variable {P : Program} {CR : CRel} {base fb : Nat} {V : List Nat} {g : G} {σ σ' : Stack} {w : World} {B : Nat → Nat} {e : Env} {tmps : Array Value} {df : List Deferred}
  {a : Ann} {ops : Array Oper} {key : Nat} {k : K} {d : D} {dst : Option Tmp} {ty : TypeId} {pos : String} {after : Array Edge} {grd : Option (Nat × Bool)}

theorem s_move (hf : Fr fb V g w B e tmps) (hi : Inv CR base g σ w) {x : Operand} {X : Opd} (hx : opdC x = some X) (h : sop e σ (.mv X) = some (d, σ')) (o : Oper) (ho : o.op = .move x ∨ o.op = .assign x) :
    Does P CR base g w B e (Act.mk tmps df).eval o d σ' := by
  simp only [sop, Option.some.injEq, Prod.mk.injEq] at h
  obtain ⟨rfl, rfl⟩ := h
  refine .pure hi (c := (Act.mk tmps df).eval x) ?_ (RelT.of (hf.opd hx))
  rcases ho with ho | ho <;> simp [execOp, ho]

theorem s_nilb (hi : Inv CR base g σ w) {n : Nat} (h : sop e σ (.nilb n) = some (d, σ')) (o : Oper) (ho : o.op = .assign (.const (.slice none 0 0))) :
    Does P CR base g w B e (Act.mk tmps df).eval o d σ' := by
  simp only [sop, Option.bind_eq_bind] at h
  cases hn : newBlk σ (.cells 0 []) with
  | none => simp [hn] at h
  | some x =>
    obtain ⟨l, i, σ1⟩ := x
    simp only [hn, Option.bind_some, Option.some.injEq, Prod.mk.injEq] at h
    obtain ⟨rfl, rfl⟩ := h
    obtain ⟨h1, h2⟩ := hi.newVirt hn
    refine .val (.slice none 0 0) (by simp [execOp, ho, Act.eval]) h2 h1 ?_
    exact .sl l i 0 0 0 n none 0 (.virt 0) G.setLoc_same (Nat.le_refl _) (by omega) (fun _ => rfl) (fun _ hh => by cases hh) (fun _ _ _ hh => by cases hh) (fun _ => rfl)

theorem s_pick (hf : Fr fb V g w B e tmps) (hi : Inv CR base g σ w) {c x y : Operand} {C X Y : Opd} (hc : opdC c = some C) (hx : opdC x = some X) (hy : opdC y = some Y)
    (h : sop e σ (.pick C X Y) = some (d, σ')) (o : Oper) (ho : o.op = .pick c x y) : Does P CR base g w B e (Act.mk tmps df).eval o d σ' := by
  simp only [sop] at h
  split at h
  · rename_i t ht
    simp only [Option.some.injEq, Prod.mk.injEq] at h
    obtain ⟨rfl, rfl⟩ := h
    have h1 := hf.opd (df := df) hc
    rw [ht] at h1
    have h2 := h1.bool_inv
    cases t
    · exact .pure hi (c := (Act.mk tmps df).eval y) (by simp [execOp, ho, h2, asBool]) (RelT.of (hf.opd hy))
    · exact .pure hi (c := (Act.mk tmps df).eval x) (by simp [execOp, ho, h2, asBool]) (RelT.of (hf.opd hx))
  · cases h

theorem s_boxi (hf : Fr fb V g w B e tmps) (hi : Inv CR base g σ w) {x : Operand} {X : Opd} {t : TypeId} (hx : opdC x = some X) (h : sop e σ (.boxi X) = some (d, σ')) (o : Oper) (ho : o.op = .box t x) :
    Does P CR base g w B e (Act.mk tmps df).eval o d σ' := by
  simp only [sop, Option.map_eq_some_iff] at h
  obtain ⟨cs, hcs, h⟩ := h
  simp only [Prod.mk.injEq] at h
  obtain ⟨rfl, rfl⟩ := h
  obtain ⟨hr, h1⟩ := (hf.opd (df := df) hx).cells hcs
  obtain ⟨i1, i2, i3⟩ := hi.newImm ((Act.mk tmps df).eval x).cells.toList ((Act.mk tmps df).eval x).cells t (fun j y hy => ⟨by simpa using hy, h1 y (List.mem_of_getElem? hy)⟩)
  refine .val (.pointer (some ⟨w.heap.size, 0, none⟩)) (by simp [execOp, ho, Instr.box, newVar, newRow]) i2 i1 ?_
  exact .cref cs _ _ _ i3 (hr.mono i2.le)

theorem s_boxm (hf : Fr fb V g w B e tmps) (hi : Inv CR base g σ w) {x : Operand} {X : Opd} {t : TypeId} (hx : opdC x = some X) (h : sop e σ (.boxm X) = some (d, σ')) (o : Oper) (ho : o.op = .box t x) :
    Does P CR base g w B e (Act.mk tmps df).eval o d σ' := by
  simp only [sop, Option.bind_eq_bind, Option.bind_eq_some_iff] at h
  obtain ⟨cs, hcs, ⟨l, i, σ1⟩, hn, h⟩ := h
  simp only [Option.some.injEq, Prod.mk.injEq] at h
  obtain ⟨rfl, rfl⟩ := h
  obtain ⟨hr, h1⟩ := (hf.opd (df := df) hx).cells hcs
  obtain ⟨i1, i2⟩ := hi.newCells hn ((Act.mk tmps df).eval x).cells.toList ((Act.mk tmps df).eval x).cells t hr (by simp) (fun j y hy => ⟨by simpa using hy, h1 y (List.mem_of_getElem? hy)⟩)
  refine .val (.pointer (some ⟨w.heap.size, 0, none⟩)) (by simp [execOp, ho, Instr.box, newVar, newRow]) i2 i1 ?_
  exact .ref l i 0 0 _ _ _ G.setLoc_same (Nat.le_refl _) (fun blk bo sz hh => by cases hh; exact ⟨rfl, rfl⟩) (by simp)


theorem addr_of {g : G} {CR : CRel} {base : Nat} {σ : Stack} {w : World} (hi : Inv CR base g σ w) {d : D} {c : Value} (hr : RelV g d c) {cs : List D}
    (h : rdD σ d = some cs) :
    cs = [] ∨ ∃ b o vs, c = .pointer (some ⟨b, o, none⟩) ∧ Rd w b o vs ∧ RelL g cs vs ∧ ∀ x ∈ vs, x.oneCell' = true := by
  cases d with
  | cref cs' =>
    simp only [rdD, Option.some.injEq] at h; subst h
    cases hr with
    | cref _ b o vs h1 h2 =>
      refine .inr ⟨b, o, vs, rfl, fun j x e => (hi.imm _ _ _ (h1 j x e)).1, h2, fun x hx => ?_⟩
      obtain ⟨j, hj⟩ := List.getElem?_of_mem hx
      exact (hi.imm _ _ _ (h1 j x hj)).2
  | ref l i v off =>
    simp only [rdD, Option.map_eq_some_iff] at h
    obtain ⟨cs0, h0, rfl⟩ := h
    cases hr with
    | ref _ _ _ _ b1 o1 L hl hv hc hnv =>
      unfold cells? at h0
      split at h0
      · rename_i v' cs1 hb
        split at h0
        · rename_i hv'; subst hv'
          cases h0
          obtain ⟨b, hb', hrel⟩ := hi.dom l i L hl
          rw [hb] at hb'; cases hb'
          cases L with
          | «at» blk bo ver sz =>
            obtain ⟨rfl, ca, el, hheap, hsz, hlen, vs, hrl, hvs⟩ := hrel
            obtain ⟨rfl, rfl⟩ := hc blk bo sz rfl
            refine .inr ⟨b1, bo + off, vs.drop off, rfl, ?_, hrl.drop off, fun x hx => ?_⟩
            · refine Rd.drop (fun j x e => ?_) off
              simp only [World.cell?, hheap]
              simpa using (hvs j x e).1
            · obtain ⟨j, hj⟩ := List.getElem?_of_mem (List.mem_of_mem_drop hx)
              exact (hvs j x hj).2
          | virt ver =>
            obtain ⟨_, rfl⟩ := hrel
            exact .inl (by simp)
          | dead => exact hrel.elim
          | lp x => exact hrel.elim
          | mp x => exact hv.elim
          | it x => exact hv.elim
          | ob x _ => exact hv.elim
        · cases h0
      · cases h0
  | _ => simp [rdD] at h

theorem s_ld (hf : Fr fb V g w B e tmps) (hi : Inv CR base g σ w) {x : Operand} {X : Opd} {t : TypeId} {ag : Bool} {sz : Nat} (hx : opdC x = some X)
    (hag : aggC P t = some ag) (hsz : sizeC P t = some sz) (hone : (ag || sz == 1) = true) (hpos : 0 < sz) (h : sop e σ (.ld ag sz X) = some (d, σ')) (o : Oper) (ho : o.op = .load t x) :
    Does P CR base g w B e (Act.mk tmps df).eval o d σ' := by
  simp only [sop] at h
  split at h
  case h_2 => cases h
  rename_i cs hcs
  split at h
  · rename_i hlen
    rcases addr_of hi (hf.opd (df := df) hx) hcs with rfl | ⟨b, off, vs, hc, hrd, hrl, h1⟩
    · simp at hlen; omega
    · obtain ⟨v, hv, hv2⟩ := run_loadVar hag hsz hone hrd (by rw [← hrl.length]; exact hlen)
      have hrun : (execOp (Act.mk tmps df).eval o).run P w = .ok (.value v) w := by
        simp [execOp, ho, hc, Instr.loadAt, Instr.sureAddr, hv]
      cases ag with
      | true =>
        simp only [if_true, Option.some.injEq, Prod.mk.injEq] at h
        obtain ⟨rfl, rfl⟩ := h
        simp only [if_true] at hv2; subst hv2
        refine .pure hi hrun (RelT.of (.agg _ _ (by simpa using hrl.take sz) fun y hy => h1 y (List.mem_of_mem_take (by simpa using hy))))
      | false =>
        simp only [Bool.false_eq_true, if_false] at h hv2
        obtain ⟨y, r, rfl, rfl⟩ := hv2
        cases cs with
        | nil => simp at hlen; omega
        | cons d0 cs =>
          simp only [Option.some.injEq, Prod.mk.injEq] at h
          obtain ⟨rfl, rfl⟩ := h
          cases hrl with
          | cons _ _ _ _ ha hb => exact .pure hi hrun (RelT.of ha)
  · cases h

theorem s_ldv (hf : Fr fb V g w B e tmps) (hi : Inv CR base g σ w) {v x : Nat} {t : TypeId} {ag : Bool} {sz : Nat}
    (hag : aggC P t = some ag) (hsz : sizeC P t = some sz) (hone : (ag || sz == 1) = true) (hpos : 0 < sz) (h : sop e σ (.ldv v ag sz x) = some (d, σ')) (o : Oper) (ho : o.op = .load t (.tmp x)) :
    Does P CR base g w B e (Act.mk tmps df).eval o d σ' := by
  simp only [sop] at h
  split at h
  · rename_i s cs off hin
    have hvar : get e v = .own s cs ∧ tmps.getD x Go.undef = .pointer (some ⟨B v, off, none⟩) := by
      unfold inVar at hin
      split at hin
      · rename_i s' cs' hg
        obtain ⟨_, hp, _⟩ := hf.own v s' cs' hg
        split at hin
        · rename_i hxv; subst hxv
          cases hin
          exact ⟨hg, hp⟩
        · split at hin
          · rename_i x' s2 off2 hg2
            split at hin
            · rename_i hc
              obtain ⟨rfl, rfl⟩ := hc
              cases hin
              have := hf.rel x
              rw [hg2] at this
              obtain ⟨s3, cs3, b3, o3, e1, _, e2, e3⟩ := this
              rw [hg] at e1; cases e1
              obtain ⟨rfl, rfl⟩ := e3 rfl
              exact ⟨hg, e2⟩
            · cases hin
          · cases hin
      · cases hin
    obtain ⟨hg, hp⟩ := hvar
    obtain ⟨_, _, hob⟩ := hf.own v s cs hg
    obtain ⟨ca, el, hheap, hrl, h1⟩ := hob.blk
    have hrd : Rd w (B v) off (ca.toList.drop off) := by
      have : Rd w (B v) 0 ca.toList := fun j y ey => by simp only [World.cell?, hheap]; simpa using ey
      simpa using this.drop off
    have hrl' := hrl.drop off
    split at h
    · rename_i hlen
      obtain ⟨u, hv, hv2⟩ := run_loadVar hag hsz hone hrd (by rw [← hrl'.length]; exact hlen)
      have hrun : (execOp (Act.mk tmps df).eval o).run P w = .ok (.value u) w := by
        simp only [execOp, ho, Act.eval, hp]
        simp [Instr.loadAt, Instr.sureAddr, hv]
      cases ag with
      | true =>
        simp only [if_true, Option.some.injEq, Prod.mk.injEq] at h
        obtain ⟨rfl, rfl⟩ := h
        simp only [if_true] at hv2; subst hv2
        exact .pure hi hrun (RelT.of (.agg _ _ (by simpa using hrl'.take sz) fun y hy => h1 y (List.mem_of_mem_drop (List.mem_of_mem_take (by simpa using hy)))))
      | false =>
        simp only [Bool.false_eq_true, if_false] at h hv2
        obtain ⟨y, r, hy, rfl⟩ := hv2
        rw [hy] at hrl'
        revert h hlen hrl'
        generalize cs.drop off = cs'
        intro hlen h hrl'
        cases cs' with
        | nil => simp at hlen; omega
        | cons d0 cs' =>
          simp only [Option.some.injEq, Prod.mk.injEq] at h
          obtain ⟨rfl, rfl⟩ := h
          cases hrl' with
          | cons _ _ _ _ ha hb => exact .pure hi hrun (RelT.of ha)
    · cases h
  · cases h

theorem s_un (hf : Fr fb V g w B e tmps) (hi : Inv CR base g σ w) {x : Operand} {X : Opd} {t : TypeId} {b : UnOp} (hx : opdC x = some X) (h : sop e σ (.un b X) = some (d, σ')) (o : Oper) (ho : o.op = .unOp b t x) :
    Does P CR base g w B e (Act.mk tmps df).eval o d σ' := by
  have hr := hf.opd (df := df) hx
  simp only [sop] at h
  split at h
  · rename_i b' hb
    cases h
    rw [hb] at hr; have hc := hr.bool_inv
    exact .pure hi (c := .bool !b') (by simp [execOp, ho, hc, Op.unary]) (RelT.of (.bool _))
  · rename_i k n hb
    cases h
    rw [hb] at hr; have hc := hr.int_inv
    exact .pure hi (c := .int k (k.wrap (0 - n))) (by simp [execOp, ho, hc, Op.unary, Op.intArith]) (RelT.of (.int _ _))
  · rename_i k n hb
    cases h
    rw [hb] at hr; have hc := hr.int_inv
    exact .pure hi (c := .int k (k.wrap ((BitVec.ofInt k.bits (if k.signed then -1 else k.max) ^^^ BitVec.ofInt k.bits n).toNat : Int))) (by simp [execOp, ho, hc, Op.unary, Op.intBits]) (RelT.of (.int _ _))
  · cases h

theorem s_cvt (hf : Fr fb V g w B e tmps) (hi : Inv CR base g σ w) {x : Operand} {X : Opd} {s t : TypeId} {k0 k : IntKind} (hx : opdC x = some X) (hs : P.underlying s = some (.int k0)) (ht : P.underlying t = some (.int k))
    (h : sop e σ (.cvt k X) = some (d, σ')) (o : Oper) (ho : o.op = .convert s t x) : Does P CR base g w B e (Act.mk tmps df).eval o d σ' := by
  have hr := hf.opd (df := df) hx
  simp only [sop] at h
  split at h
  · rename_i k' n hb
    cases h
    rw [hb] at hr; have hc := hr.int_inv
    exact .pure hi (c := .int k (k.wrap n)) (by simp [execOp, ho, hc, convert, run_under hs, run_under ht, Conv.intToInt]) (RelT.of (.int _ _))
  · cases h

theorem s_mkf (hf : Fr fb V g w B e tmps) (hi : Inv CR base g σ w) {f : FuncId} {xs ys : Array Operand} {Xs Ys : List Opd} (hx : opdsC xs.toList = some Xs) (hy : opdsC ys.toList = some Ys)
    (h : sop e σ (.mkf f Xs Ys) = some (d, σ')) (o : Oper) (ho : o.op = .makeFunc (.func f) xs ys) : Does P CR base g w B e (Act.mk tmps df).eval o d σ' := by
  simp only [sop] at h
  cases h
  refine .pure hi (c := .func (.func f) (xs.map (Act.mk tmps df).eval) (ys.map (Act.mk tmps df).eval)) (by simp [execOp, ho, Instr.makeFunc]) (RelT.of (.fn f _ _ _ _ ?_ ?_))
  · simpa using hf.opds (df := df) hx
  · simpa using hf.opds (df := df) hy

theorem s_ext (hf : Fr fb V g w B e tmps) (hi : Inv CR base g σ w) {x : Operand} {X : Opd} {i : Nat} (hx : opdC x = some X) (h : sop e σ (.ext X i) = some (d, σ')) (o : Oper) (ho : o.op = .extract x i) :
    Does P CR base g w B e (Act.mk tmps df).eval o d σ' := by
  have hr := hf.opd (df := df) hx
  simp only [sop] at h
  split at h
  · rename_i ds hb
    simp only [Option.map_eq_some_iff] at h
    obtain ⟨d0, hd, h⟩ := h
    cases h
    rw [hb] at hr
    generalize hcv : (Act.mk tmps df).eval x = cv at hr
    cases hr with
    | tup _ cs hrl =>
      obtain ⟨c, hc, hrc⟩ := hrl.get hd
      refine .pure hi (c := c) ?_ (RelT.of hrc)
      have : cs[i]? = some c := by simpa using hc
      simp [execOp, ho, hcv, Instr.extract, this]
  · cases h

theorem s_len (hf : Fr fb V g w B e tmps) (hi : Inv CR base g σ w) {x : Operand} {X : Opd} {t el : TypeId} {args : Array Operand} {ts : Array TypeId} {r : List Operand} {tr : List TypeId} (hx : opdC x = some X)
    (ht : P.underlying t = some (.slice el)) (ha : args.toList = x :: r) (hts : ts.toList = t :: tr)
    (h : sop e σ (.lenS X) = some (d, σ')) (o : Oper) (ho : o.op = .call { callee := .builtin .len, args, argTypes := ts }) : Does P CR base g w B e (Act.mk tmps df).eval o d σ' := by
  have hr := hf.opd (df := df) hx
  obtain rfl : args = (x :: r).toArray := by rw [← ha]
  obtain rfl : ts = (t :: tr).toArray := by rw [← hts]
  have key : ∀ (a0 : Option Addr) (n c : Nat), (Act.mk tmps df).eval x = .slice a0 n c → (execOp (Act.mk tmps df).eval o).run P w = .ok (.value (.int .i64 n)) w := by
    intro a0 n c he
    simp [execOp, ho, resolve, invoke, builtin, Builtin.len_, he, run_under ht, goInt]
  simp only [sop] at h
  split at h
  · rename_i hb
    cases h
    rw [hb] at hr
    generalize hcv : (Act.mk tmps df).eval x = cv at hr
    cases hr
    exact .pure hi (key _ _ _ hcv) (RelT.of (.int _ _))
  · rename_i n cs hb
    cases h
    rw [hb] at hr
    generalize hcv : (Act.mk tmps df).eval x = cv at hr
    cases hr with
    | lstn => exact .pure hi (key _ _ _ hcv) (RelT.of (.int _ _))
    | lst _ _ a0 cap vs => exact .pure hi (key _ _ _ hcv) (RelT.of (.int _ _))
  · rename_i l i v off n w' hb
    cases h
    rw [hb] at hr
    generalize hcv : (Act.mk tmps df).eval x = cv at hr
    cases hr
    exact .pure hi (key _ _ _ hcv) (RelT.of (.int _ _))
  · cases h

end ops
end Go.Abs

/-
  More operations: arithmetic, fields, indexes, slices, composites.
-/
set_option linter.unusedVariables false
set_option linter.unusedSimpArgs false
namespace Go.Abs
open Go

section ops
variable {P : Program} {CR : CRel} {base fb : Nat} {V : List Nat} {g : G} {σ σ' : Stack} {w : World} {B : Nat → Nat} {e : Env} {tmps : Array Value} {df : List Deferred}
  {d : D}

theorem s_bin (hf : Fr fb V g w B e tmps) (hi : Inv CR base g σ w) {x y : Operand} {X Y : Opd} {t u : TypeId} {b : BinOp} (hx : opdC x = some X) (hy : opdC y = some Y)
    (h : sop e σ (.bin b X Y) = some (d, σ')) (o : Oper) (ho : o.op = .binOp b t x y u) : Does P CR base g w B e (Act.mk tmps df).eval o d σ' := by
  have hr := hf.opd (df := df) hx
  have hr' := hf.opd (df := df) hy
  simp only [sop, Option.map_eq_some_iff] at h
  obtain ⟨d0, hb, h⟩ := h
  cases h
  generalize hX : opd e X = dx at hr hb
  generalize hY : opd e Y = dy at hr' hb
  unfold binD at hb
  split at hb
  · rename_i k a k' c
    have e1 := hr.int_inv
    have e2 := hr'.int_inv
    cases b <;> simp only [] at hb <;> (try split at hb) <;> first
      | (cases hb; done)
      | (rename_i hc; first | (obtain ⟨rfl, hc0⟩ := hc) | (subst hc) | skip
         cases hb
         refine .pure hi ?_ (RelT.of (by constructor))
         simp [execOp, ho, e1, e2, eqGuard, binOp, Op.intArith, Op.intDiv, Op.intBits, Op.intCmp, Op.shift, *] <;> omega)
      | (rename_i hc; first | (obtain ⟨rfl, hc0⟩ := hc) | (subst hc) | skip
         cases hb
         refine .pure hi ?_ (RelT.of (by constructor))
         simp [execOp, ho, e1, e2, eqGuard, binOp, Op.intArith, Op.intDiv, Op.intBits, Op.intCmp, Op.shift, *])
  · cases hb

theorem s_fadr (hf : Fr fb V g w B e tmps) (hi : Inv CR base g σ w) {x : Operand} {X : Opd} {s : TypeId} {fs : Array Field} {i off sz : Nat} (hx : opdC x = some X) (hs : P.underlying s = some (.struct fs))
    (hfc : fieldsC P fs i = some (off, sz)) (hsz : 0 < sz) (h : sop e σ (.fadr off X) = some (d, σ')) (o : Oper) (ho : o.op = .fieldAddr s x i) : Does P CR base g w B e (Act.mk tmps df).eval o d σ' := by
  unfold fieldsC at hfc
  split at hfc
  case h_2 => cases hfc
  rename_i f hfi
  simp only [Option.map_eq_some_iff, Prod.mk.injEq] at hfc
  obtain ⟨sz', hsz', rfl, rfl⟩ := hfc
  have hrun : ∀ (b o' : Nat), (Act.mk tmps df).eval x = .pointer (some ⟨b, o', none⟩) → (execOp (Act.mk tmps df).eval o).run P w = .ok (.value (.pointer (some ⟨b, o' + f.offset, none⟩))) w := by
    intro b o' he
    have : sz' ≠ 0 := by omega
    simp [execOp, ho, Instr.fieldAt, run_under hs, hfi, he, Instr.sureAddr, fieldPlace, run_sizeOf hsz', this, add_eq]
  simp only [sop] at h
  split at h
  case h_2 => cases h
  rename_i n
  cases x with
  | tmp t =>
    simp only [opdC, Option.some.injEq, Opd.t.injEq] at hx
    subst hx
    have hr := hf.rel t
    split at h
    · rename_i cs hg
      cases h
      rw [hg] at hr
      generalize hcv : tmps.getD t Go.undef = cv at hr
      cases hr with
      | cref _ b o' vs h1 h2 =>
        refine .pure hi (hrun b o' hcv) (RelT.of (.cref _ b (o' + f.offset) (vs.drop f.offset) ?_ (h2.drop _)))
        intro j v hj
        rw [List.getElem?_drop] at hj
        have := h1 _ v hj
        rwa [show o' + f.offset + j = o' + (f.offset + j) from by omega]
    · rename_i l j v o' hg
      cases h
      rw [hg] at hr
      generalize hcv : tmps.getD t Go.undef = cv at hr
      cases hr with
      | ref _ _ _ _ b o1 L h1 h2 h3 h4 =>
        refine .pure hi (hrun b o1 hcv) (RelT.of (.ref l j v _ b _ L h1 h2 (fun blk bo sz hL => ?_) h4))
        obtain ⟨rfl, rfl⟩ := h3 blk bo sz hL
        exact ⟨rfl, by omega⟩
    · rename_i s' cs hg
      cases h
      obtain ⟨_, hp, _⟩ := hf.own t s' cs hg
      exact .pure hi (hrun (B t) 0 hp) ⟨s', cs, _, _, hg, Nat.le_refl _, rfl, fun _ => by simp⟩
    · rename_i v s' o' hg
      cases h
      rw [hg] at hr
      obtain ⟨s2, cs, b1, o1, hg2, hle, hp, hv⟩ := hr
      refine .pure hi (hrun b1 o1 hp) ⟨s2, cs, _, _, hg2, hle, rfl, fun hss => ?_⟩
      obtain ⟨rfl, rfl⟩ := hv hss
      exact ⟨rfl, rfl⟩
    · cases h
  | const v => simp only [opdC, Option.map_eq_some_iff] at hx; obtain ⟨_, _, hx⟩ := hx; cases hx
  | global n => cases hx
  | func f => cases hx


theorem row_drop {g : G} {b o : Nat} {vs : List Value} (h : g.row b o vs) (n : Nat) : g.row b (o + n) (vs.drop n) := fun j v e => by
  rw [List.getElem?_drop] at e
  have := h _ v e
  rwa [show o + n + j = o + (n + j) from by omega]

theorem row_take {g : G} {b o : Nat} {vs : List Value} (h : g.row b o vs) (n : Nat) : g.row b o (vs.take n) := fun j v e => by
  rw [List.getElem?_take] at e
  split at e
  · exact h _ v e
  · cases e

theorem s_idxA (hf : Fr fb V g w B e tmps) (hi : Inv CR base g σ w) {x y : Operand} {X Y : Opd} {t el : TypeId} {n wd : Nat} (hx : opdC x = some X) (hy : opdC y = some Y) (ht : P.underlying t = some (.array n el))
    (hw : sizeC P el = some wd) (h : sop e σ (.idxA n wd X Y) = some (d, σ')) (o : Oper) (ho : o.op = .indexAddr t x y) : Does P CR base g w B e (Act.mk tmps df).eval o d σ' := by
  simp only [sop] at h
  split at h
  case h_2 => cases h
  rename_i m iv hiv
  obtain ⟨k, hky⟩ := intD_inv (hf.opd (df := df) hy) hiv
  split at h
  case isFalse => cases h
  rename_i hb
  have hrun : ∀ (b o' : Nat), (Act.mk tmps df).eval x = .pointer (some ⟨b, o', none⟩) → (execOp (Act.mk tmps df).eval o).run P w = .ok (.value (.pointer (some ⟨b, o' + iv.toNat * wd, none⟩))) w := by
    intro b o' he
    simp [execOp, ho, Instr.indexAt, hky, asIntOf, he, Instr.sureAddr, run_under ht, hb, run_sizeOf hw, add_eq]
  cases x with
  | tmp t' =>
    simp only [opdC, Option.some.injEq, Opd.t.injEq] at hx
    subst hx
    have hr := hf.rel t'
    split at h
    · rename_i cs hg
      cases h
      rw [hg] at hr
      generalize hcv : tmps.getD t' Go.undef = cv at hr
      cases hr with
      | cref _ b o' vs h1 h2 => exact .pure hi (hrun b o' hcv) (RelT.of (.cref _ b _ _ (row_take (row_drop h1 _) _) ((h2.drop _).take _)))
    · rename_i l j v o' hg
      cases h
      rw [hg] at hr
      generalize hcv : tmps.getD t' Go.undef = cv at hr
      cases hr with
      | ref _ _ _ _ b o1 L h1 h2 h3 h4 =>
        refine .pure hi (hrun b o1 hcv) (RelT.of (.ref l j v _ b _ L h1 h2 (fun blk bo sz hL => ?_) h4))
        obtain ⟨rfl, rfl⟩ := h3 blk bo sz hL
        exact ⟨rfl, by omega⟩
    · rename_i s' cs hg
      cases h
      obtain ⟨_, hp, _⟩ := hf.own t' s' cs hg
      exact .pure hi (hrun (B t') 0 hp) ⟨s', cs, _, _, hg, Nat.le_refl _, rfl, fun _ => by simp⟩
    · rename_i v s' o' hg
      cases h
      rw [hg] at hr
      obtain ⟨s2, cs, b1, o1, hg2, hle, hp, hv⟩ := hr
      refine .pure hi (hrun b1 o1 hp) ⟨s2, cs, _, _, hg2, hle, rfl, fun hss => ?_⟩
      obtain ⟨rfl, rfl⟩ := hv hss
      exact ⟨rfl, rfl⟩
    · cases h
  | const v => simp only [opdC, Option.map_eq_some_iff] at hx; obtain ⟨_, _, hx⟩ := hx; cases hx
  | global n => cases hx
  | func f => cases hx

theorem s_idxS (hf : Fr fb V g w B e tmps) (hi : Inv CR base g σ w) {x y : Operand} {X Y : Opd} {t el : TypeId} {wd : Nat} (hx : opdC x = some X) (hy : opdC y = some Y) (ht : P.underlying t = some (.slice el))
    (hw : sizeC P el = some wd) (h : sop e σ (.idxS wd X Y) = some (d, σ')) (o : Oper) (ho : o.op = .indexAddr t x y) : Does P CR base g w B e (Act.mk tmps df).eval o d σ' := by
  have hr := hf.opd (df := df) hx
  have hrun : ∀ (a : Addr) (n c : Nat) (iv : Int) (k : IntKind), (Act.mk tmps df).eval y = .int k iv → (Act.mk tmps df).eval x = .slice (some a) n c → a.spot = none → 0 ≤ iv ∧ iv < n →
      (execOp (Act.mk tmps df).eval o).run P w = .ok (.value (.pointer (some ⟨a.block, a.off + iv.toNat * wd, none⟩))) w := by
    intro a n c iv k hy he hs hb
    obtain ⟨b, o', sp⟩ := a
    simp only at hs; subst hs
    simp [execOp, ho, Instr.indexAt, hy, asIntOf, he, run_under ht, hb, run_sizeOf hw, add_eq]
  simp only [sop] at h
  split at h
  · rename_i m cs iv hX hiv
    obtain ⟨k, hky⟩ := intD_inv (hf.opd (df := df) hy) hiv
    split at h
    case isFalse => cases h
    rename_i hb
    cases h
    rw [hX] at hr
    generalize hcv : (Act.mk tmps df).eval x = cv at hr
    cases hr with
    | lstn => omega
    | lst _ _ a cap vs h1 h2 h3 h4 =>
      exact .pure hi (hrun _ _ _ _ _ hky hcv (h3 (by omega)) hb) (RelT.of (.cref _ _ _ _ (row_take (row_drop h2 _) _) ((h4.drop _).take _)))
  · rename_i l j v off m w' iv hX hiv
    obtain ⟨k, hky⟩ := intD_inv (hf.opd (df := df) hy) hiv
    split at h
    case isFalse => cases h
    rename_i hb
    obtain ⟨hb1, hb2, rfl⟩ := hb
    cases h
    rw [hX] at hr
    generalize hcv : (Act.mk tmps df).eval x = cv at hr
    cases hr with
    | sl _ _ _ _ _ _ a cap L h1 h2 h3 h4 h5 h6 h7 =>
      cases a with
      | none => have := h4 rfl; omega
      | some a =>
        have hsp := h5 a rfl (by omega)
        refine .pure hi (hrun _ _ _ _ _ hky hcv hsp ⟨hb1, hb2⟩) (RelT.of (.ref l j v _ _ _ L h1 h2 (fun blk bo sz hL => ?_) (fun hL => by cases h7 hL)))
        rcases h6 blk bo sz hL with ⟨h8, _⟩ | h8
        · cases h8; exact ⟨rfl, by simp only []; omega⟩
        · omega
  · cases h


theorem part_run {t : TypeId} {ag : Bool} {sz : Nat} {cs : Array Value} {off : Nat} (hag : aggC P t = some ag) (hsz : sizeC P t = some sz) {ds : List D} (hr : RelL g ds cs.toList) (h1 : ∀ x ∈ cs.toList, x.oneCell' = true)
    (hlen : off + sz ≤ ds.length) (hd : (if ag then some (.agg ((ds.drop off).take sz)) else ds[off]?) = some d) : ∃ c, (part t cs off).run P w = .ok c w ∧ RelV g d c := by
  cases ag with
  | true =>
    simp only [if_true, Option.some.injEq] at hd; subst hd
    refine ⟨.agg (cs.extract off (off + sz)), by simp [part, run_isAgg hag, run_sizeOf hsz], .agg _ _ ?_ ?_⟩
    · have : (cs.extract off (off + sz)).toList = (cs.toList.drop off).take sz := by simp [List.drop_take]
      rw [this]; exact (hr.drop off).take sz
    · intro x hx
      have : (cs.extract off (off + sz)).toList = (cs.toList.drop off).take sz := by simp [List.drop_take]
      rw [this] at hx
      exact h1 x (List.mem_of_mem_drop (List.mem_of_mem_take hx))
  | false =>
    simp only [Bool.false_eq_true, if_false] at hd
    obtain ⟨c, hc, hrc⟩ := hr.get hd
    have : cs[off]? = some c := by simpa using hc
    exact ⟨c, by simp [part, run_isAgg hag, this], hrc⟩

theorem s_fld (hf : Fr fb V g w B e tmps) (hi : Inv CR base g σ w) {x : Operand} {X : Opd} {s : TypeId} {fs : Array Field} {f : Field} {i : Nat} {ag : Bool} {sz : Nat} (hx : opdC x = some X)
    (hs : P.underlying s = some (.struct fs)) (hfi : fs[i]? = some f) (hag : aggC P f.type = some ag) (hsz : sizeC P f.type = some sz)
    (h : sop e σ (.fld ag f.offset sz X) = some (d, σ')) (o : Oper) (ho : o.op = .field s x i) : Does P CR base g w B e (Act.mk tmps df).eval o d σ' := by
  have hr := hf.opd (df := df) hx
  simp only [sop] at h
  split at h
  · rename_i cs hX
    rw [hX] at hr
    generalize hcv : (Act.mk tmps df).eval x = cv at hr
    cases hr with
    | agg _ ca hrl h1 =>
      split at h
      case isFalse => cases h
      rename_i hlen
      have h2 : (if ag then some (.agg ((cs.drop f.offset).take sz)) else cs[f.offset]?) = some d ∧ σ = σ' := by
        cases ag with
        | true => simp_all
        | false =>
          simp only [Bool.false_eq_true, if_false, Option.map_eq_some_iff, Prod.mk.injEq] at h
          obtain ⟨a, h3, rfl, rfl⟩ := h
          exact ⟨h3, rfl⟩
      obtain ⟨h2, rfl⟩ := h2
      obtain ⟨c, hrun, hrc⟩ := part_run (P := P) (w := w) hag hsz hrl h1 hlen h2
      exact .pure hi (c := c) (by simp [execOp, ho, Instr.field, run_under hs, hfi, hcv, asAgg, hrun]) (RelT.of hrc)
  · cases h

theorem s_idxV (hf : Fr fb V g w B e tmps) (hi : Inv CR base g σ w) {x y : Operand} {X Y : Opd} {t el : TypeId} {n wd : Nat} {ag : Bool} (hx : opdC x = some X) (hy : opdC y = some Y)
    (ht : P.underlying t = some (.array n el)) (hag : aggC P el = some ag) (hsz : sizeC P el = some wd)
    (h : sop e σ (.idxV ag n wd X Y) = some (d, σ')) (o : Oper) (ho : o.op = .index t x y) : Does P CR base g w B e (Act.mk tmps df).eval o d σ' := by
  have hr := hf.opd (df := df) hx
  simp only [sop] at h
  split at h
  · rename_i cs iv hX hiv
    obtain ⟨k, hky⟩ := intD_inv (hf.opd (df := df) hy) hiv
    rw [hX] at hr
    generalize hcv : (Act.mk tmps df).eval x = cv at hr
    cases hr with
    | agg _ ca hrl h1 =>
      split at h
      case isFalse => cases h
      rename_i hb
      have h2 : (if ag then some (.agg ((cs.drop (iv.toNat * wd)).take wd)) else cs[iv.toNat * wd]?) = some d ∧ σ = σ' := by
        cases ag with
        | true => simp_all
        | false =>
          simp only [Bool.false_eq_true, if_false, Option.map_eq_some_iff, Prod.mk.injEq] at h
          obtain ⟨a, h3, rfl, rfl⟩ := h
          exact ⟨h3, rfl⟩
      obtain ⟨h2, rfl⟩ := h2
      obtain ⟨c, hrun, hrc⟩ := part_run (P := P) (w := w) hag hsz hrl h1 (by have := hb.2.2; rw [Nat.add_mul] at this; omega) h2
      exact .pure hi (c := c) (by simp [execOp, ho, Instr.index, run_under ht, hky, asIntOf, hcv, hb.1, hb.2.1, run_sizeOf hsz, hrun]) (RelT.of hrc)
  · cases h

theorem s_lenC (hi : Inv CR base g σ w) {n : Nat} {args : Array Operand} {ts : Array TypeId} {x : Operand} {r : List Operand} {t : TypeId} {tr : List TypeId} {ρ : Operand → Value}
    (ht : (∃ el, P.underlying t = some (.array n el)) ∨ ∃ u el, P.underlying t = some (.pointer u) ∧ P.underlying u = some (.array n el)) (ha : args.toList = x :: r) (hts : ts.toList = t :: tr)
    (h : sop e σ (.lenC n) = some (d, σ')) (o : Oper) (ho : o.op = .call { callee := .builtin .len, args, argTypes := ts }) : Does P CR base g w B e ρ o d σ' := by
  simp only [sop] at h
  cases h
  obtain rfl : args = (x :: r).toArray := by rw [← ha]
  obtain rfl : ts = (t :: tr).toArray := by rw [← hts]
  refine .pure hi (c := .int .i64 n) ?_ (RelT.of (.int _ _))
  rcases ht with ⟨el, ht⟩ | ⟨u, el, ht, hu⟩
  · simp [execOp, ho, resolve, invoke, builtin, Builtin.len_, run_under ht, goInt]
  · simp [execOp, ho, resolve, invoke, builtin, Builtin.len_, run_under ht, run_under hu, goInt]

theorem s_mn (hf : Fr fb V g w B e tmps) (hi : Inv CR base g σ w) {x y : Operand} {X Y : Opd} {args : Array Operand} {ts : Array TypeId} (hx : opdC x = some X) (hy : opdC y = some Y) (ha : args.toList = [x, y])
    (h : sop e σ (.mn X Y) = some (d, σ')) (o : Oper) (ho : o.op = .call { callee := .builtin .min, args, argTypes := ts }) : Does P CR base g w B e (Act.mk tmps df).eval o d σ' := by
  have hr := hf.opd (df := df) hx
  have hr' := hf.opd (df := df) hy
  obtain rfl : args = #[x, y] := by rw [← Array.toList_inj, ha]
  simp only [sop] at h
  split at h
  · rename_i k a k' b hX hY
    cases h
    rw [hX] at hr; rw [hY] at hr'
    have e1 := hr.int_inv
    have e2 := hr'.int_inv
    refine .pure hi (c := .int k (min a b)) ?_ (RelT.of (.int _ _))
    simp [execOp, ho, resolve, invoke, builtin, Builtin.min_, Builtin.min2, e1, e2]
    omega
  · cases h

theorem s_mx (hf : Fr fb V g w B e tmps) (hi : Inv CR base g σ w) {x y : Operand} {X Y : Opd} {args : Array Operand} {ts : Array TypeId} (hx : opdC x = some X) (hy : opdC y = some Y) (ha : args.toList = [x, y])
    (h : sop e σ (.mx X Y) = some (d, σ')) (o : Oper) (ho : o.op = .call { callee := .builtin .max, args, argTypes := ts }) : Does P CR base g w B e (Act.mk tmps df).eval o d σ' := by
  have hr := hf.opd (df := df) hx
  have hr' := hf.opd (df := df) hy
  obtain rfl : args = #[x, y] := by rw [← Array.toList_inj, ha]
  simp only [sop] at h
  split at h
  · rename_i k a k' b hX hY
    cases h
    rw [hX] at hr; rw [hY] at hr'
    have e1 := hr.int_inv
    have e2 := hr'.int_inv
    refine .pure hi (c := .int k (max a b)) ?_ (RelT.of (.int _ _))
    simp [execOp, ho, resolve, invoke, builtin, Builtin.max_, Builtin.max2, e1, e2]
    omega
  · cases h

theorem run_sliceBound {n : Nat} {iv : Int} {k : IntKind} {code : BoundsCode} (h : 0 ≤ iv ∧ iv ≤ n) : (Instr.sliceBound (.int k iv) n code).run P w = .ok iv.toNat w := by
  simp [Instr.sliceBound, asIntOf, h]

theorem run_bounds {isSlice : Bool} (hf : Fr fb V g w B e tmps) {lo hi mx : Option Operand} {Lo Hi Mx : Option Opd} (hlo : optC lo = some Lo) (hhi : optC hi = some Hi) (hmx : optC mx = some Mx) {n cap l h : Nat} (hn : n ≤ cap)
    (hb : bounds n e Lo Hi Mx = some (l, h)) :
    ∃ m, (Instr.sliceBounds isSlice n cap (lo.map (Act.mk tmps df).eval) (hi.map (Act.mk tmps df).eval) (mx.map (Act.mk tmps df).eval)).run P w = .ok (l, h, m) w ∧ l ≤ h ∧ h ≤ n ∧ h ≤ m ∧ m ≤ cap := by
  have hopt : ∀ {x : Option Operand} {X : Option Opd}, optC x = some X → (x = none ∧ X = none) ∨ ∃ y Y, x = some y ∧ X = some Y ∧ opdC y = some Y := by
    intro x X hx
    cases x with
    | none => simp [optC] at hx; exact .inl ⟨rfl, hx.symm⟩
    | some y => simp only [optC, Option.map_eq_some_iff] at hx; obtain ⟨Y, h1, rfl⟩ := hx; exact .inr ⟨y, Y, rfl, rfl, h1⟩
  simp only [bounds, Option.bind_eq_some_iff, Option.map_eq_some_iff] at hb
  obtain ⟨m, hm, h', hh, l', hl, hb⟩ := hb
  cases hb
  have hbnd : ∀ {x : Option Operand} {X : Option Opd} {m : Nat} {dfl : Option Nat} {r : Nat}, optC x = some X → bnd e m dfl X = some r →
      (x = none ∧ X = none ∧ dfl = some r) ∨ ∃ (y : Operand) (k : IntKind) (iv : Int), x = some y ∧ X.isSome = true ∧ (Act.mk tmps df).eval y = .int k iv ∧ 0 ≤ iv ∧ iv ≤ m ∧ r = iv.toNat := by
    intro x X m dfl r hx hb
    rcases hopt hx with ⟨rfl, rfl⟩ | ⟨y, Y, rfl, rfl, hy⟩
    · exact .inl ⟨rfl, rfl, hb⟩
    · simp only [bnd] at hb
      split at hb
      · rename_i iv hiv
        obtain ⟨k, hk⟩ := intD_inv (hf.opd (df := df) hy) hiv
        split at hb
        · rename_i hc; cases hb; exact .inr ⟨y, k, iv, rfl, rfl, hk, hc.1, hc.2, rfl⟩
        · cases hb
      · cases hb
  -- the three bounds
  have h3 : (mx = none ∧ Mx = none ∧ m = n) ∨ ∃ (y : Operand) (k : IntKind) (iv : Int), mx = some y ∧ Mx.isSome = true ∧ (Act.mk tmps df).eval y = .int k iv ∧ 0 ≤ iv ∧ iv ≤ n ∧ m = iv.toNat := by
    rcases hbnd hmx hm with ⟨a1, a2, a3⟩ | a
    · cases a3; exact .inl ⟨a1, a2, rfl⟩
    · exact .inr a
  have h2 : (hi = none ∧ Mx.isSome = false ∧ h = n) ∨ ∃ (y : Operand) (k : IntKind) (iv : Int), hi = some y ∧ (Act.mk tmps df).eval y = .int k iv ∧ 0 ≤ iv ∧ iv ≤ m ∧ h = iv.toNat := by
    rcases hbnd hhi hh with ⟨a1, a2, a3⟩ | ⟨y, k, iv, a1, _, a2⟩
    · split at a3
      · cases a3
      · rename_i hc; cases a3; exact .inl ⟨a1, by simpa using hc, rfl⟩
    · exact .inr ⟨y, k, iv, a1, a2⟩
  have h1 : (lo = none ∧ l = 0) ∨ ∃ (y : Operand) (k : IntKind) (iv : Int), lo = some y ∧ (Act.mk tmps df).eval y = .int k iv ∧ 0 ≤ iv ∧ iv ≤ h ∧ l = iv.toNat := by
    rcases hbnd hlo hl with ⟨a1, a2, a3⟩ | ⟨y, k, iv, a1, _, a2⟩
    · cases a3; exact .inl ⟨a1, rfl⟩
    · exact .inr ⟨y, k, iv, a1, a2⟩
  rcases h3 with ⟨rfl, rfl, rfl⟩ | ⟨y3, k3, i3, rfl, hs3, e3, a3, b3, rfl⟩
  · refine ⟨cap, ?_, ?_, ?_, ?_, Nat.le_refl _⟩
    · rcases h2 with ⟨rfl, _, rfl⟩ | ⟨y2, k2, i2, rfl, e2, a2, b2, rfl⟩ <;> rcases h1 with ⟨rfl, rfl⟩ | ⟨y1, k1, i1, rfl, e1, a1, b1, rfl⟩
      · simp [Instr.sliceBounds]
      · simp [Instr.sliceBounds, e1, run_sliceBound (P := P) (w := w) (n := h) (k := k1) (iv := i1) ⟨a1, b1⟩]
      · simp [Instr.sliceBounds, e2, run_sliceBound (P := P) (w := w) (n := cap) (k := k2) (iv := i2) ⟨a2, by omega⟩]
      · simp [Instr.sliceBounds, e1, e2, run_sliceBound (P := P) (w := w) (n := cap) (k := k2) (iv := i2) ⟨a2, by omega⟩, run_sliceBound (P := P) (w := w) (n := i2.toNat) (k := k1) (iv := i1) ⟨a1, b1⟩]
    · rcases h1 with ⟨_, rfl⟩ | ⟨y1, k1, i1, _, e1, a1, b1, rfl⟩ <;> omega
    · rcases h2 with ⟨_, _, rfl⟩ | ⟨y2, k2, i2, _, e2, a2, b2, rfl⟩ <;> omega
    · rcases h2 with ⟨_, _, rfl⟩ | ⟨y2, k2, i2, _, e2, a2, b2, rfl⟩ <;> omega
  · rcases h2 with ⟨_, h2, _⟩ | ⟨y2, k2, i2, rfl, e2, a2, b2, rfl⟩
    · rw [hs3] at h2; cases h2
    · refine ⟨i3.toNat, ?_, ?_, by omega, by omega, by omega⟩
      · rcases h1 with ⟨rfl, rfl⟩ | ⟨y1, k1, i1, rfl, e1, a1, b1, rfl⟩
        · simp [Instr.sliceBounds, e2, e3, run_sliceBound (P := P) (w := w) (n := cap) (k := k3) (iv := i3) ⟨a3, by omega⟩, run_sliceBound (P := P) (w := w) (n := i3.toNat) (k := k2) (iv := i2) ⟨a2, b2⟩]
        · simp [Instr.sliceBounds, e1, e2, e3, run_sliceBound (P := P) (w := w) (n := cap) (k := k3) (iv := i3) ⟨a3, by omega⟩, run_sliceBound (P := P) (w := w) (n := i3.toNat) (k := k2) (iv := i2) ⟨a2, b2⟩,
            run_sliceBound (P := P) (w := w) (n := i2.toNat) (k := k1) (iv := i1) ⟨a1, b1⟩]
      · rcases h1 with ⟨_, rfl⟩ | ⟨y1, k1, i1, _, e1, a1, b1, rfl⟩ <;> omega

end ops
end Go.Abs

/-
  Operations on slices and composites.
-/
set_option linter.unusedVariables false
set_option linter.unusedSimpArgs false
namespace Go.Abs
open Go

section ops
variable {P : Program} {CR : CRel} {base fb : Nat} {V : List Nat} {g : G} {σ σ' : Stack} {w : World} {B : Nat → Nat} {e : Env} {tmps : Array Value} {df : List Deferred}
  {d : D}

theorem s_slc (hf : Fr fb V g w B e tmps) (hi : Inv CR base g σ w) {x : Operand} {X : Opd} {t el : TypeId} {wd : Nat} {lo hi' mx : Option Operand} {Lo Hi Mx : Option Opd} (hx : opdC x = some X)
    (ht : P.underlying t = some (.slice el)) (hw : sizeC P el = some wd) (hlo : optC lo = some Lo) (hhi : optC hi' = some Hi) (hmx : optC mx = some Mx)
    (h : sop e σ (.slc wd X Lo Hi Mx) = some (d, σ')) (o : Oper) (ho : o.op = .slice t x lo hi' mx) : Does P CR base g w B e (Act.mk tmps df).eval o d σ' := by
  have hr := hf.opd (df := df) hx
  have hrun : ∀ (a : Option Addr) (n cap l h m : Nat), (Act.mk tmps df).eval x = .slice a n cap →
      (Instr.sliceBounds true n cap (lo.map (Act.mk tmps df).eval) (hi'.map (Act.mk tmps df).eval) (mx.map (Act.mk tmps df).eval)).run P w = .ok (l, h, m) w →
      (execOp (Act.mk tmps df).eval o).run P w = .ok (.value (.slice (if m = l then a else a.map (·.add (l * wd))) (h - l) (m - l))) w := by
    intro a n cap l h m he hb
    simp [execOp, ho, Instr.sliceAt, run_under ht, Instr.slice, he, hb, run_sizeOf hw]
  simp only [sop] at h
  split at h
  · rename_i n cs hX
    simp only [Option.map_eq_some_iff, Prod.mk.injEq] at h
    obtain ⟨⟨l, h'⟩, hb, rfl, rfl⟩ := h
    rw [hX] at hr
    generalize hcv : (Act.mk tmps df).eval x = cv at hr
    cases hr with
    | lstn =>
      obtain ⟨m, h1, h2, h3, h4, h5⟩ := run_bounds (P := P) (w := w) (df := df) (isSlice := true) hf hlo hhi hmx (Nat.le_refl 0) hb
      refine .pure hi (hrun _ _ _ _ _ _ hcv h1) (RelT.of ?_)
      obtain rfl : h' = 0 := by omega
      obtain rfl : l = 0 := by omega
      obtain rfl : m = 0 := by omega
      simpa using RelV.lstn (g := g)
    | lst _ _ a cap vs hn h2 h3 h4 =>
      obtain ⟨m, h1, h2', h3', h4', h5'⟩ := run_bounds (P := P) (w := w) (df := df) (isSlice := true) hf hlo hhi hmx hn hb
      refine .pure hi (hrun _ _ _ _ _ _ hcv h1) (RelT.of ?_)
      by_cases hml : m = l
      · rw [if_pos hml]
        obtain rfl : h' = l := by omega
        simp only [Nat.sub_self]
        refine .lst _ _ a _ [] (by omega) (fun _ _ hh => by simp at hh) (by simp) (by simpa using RelL.nil)
      · rw [if_neg hml]
        simp only [Option.map_some]
        by_cases hl : l * wd = 0
        · rw [hl]
          have : a.add 0 = a := by simp [Addr.add]
          rw [this]
          refine .lst _ _ a _ (vs.take ((h' - l) * wd)) (by omega) (row_take h2 _) (fun hne => h3 (by omega)) ?_
          simpa using h4.take _
        · have ha : a.add (l * wd) = ⟨a.block, a.off + l * wd, none⟩ := by
            unfold Addr.add; rw [if_neg hl]
          rw [ha]
          exact .lst _ _ _ _ ((vs.drop (l * wd)).take ((h' - l) * wd)) (by omega) (row_take (row_drop h2 _) _) (fun _ => rfl) ((h4.drop _).take _)
  · rename_i l0 i0 v off n w' hX
    split at h
    case isFalse => cases h
    rename_i hw'; subst hw'
    simp only [Option.map_eq_some_iff, Prod.mk.injEq] at h
    obtain ⟨⟨l, h'⟩, hb, rfl, rfl⟩ := h
    rw [hX] at hr
    generalize hcv : (Act.mk tmps df).eval x = cv at hr
    cases hr with
    | sl _ _ _ _ _ _ a cap L k1 k2 hn k4 k5 k6 k7 =>
      obtain ⟨m, h1, h2', h3', h4', h5'⟩ := run_bounds (P := P) (w := w) (df := df) (isSlice := true) hf hlo hhi hmx hn.1 hb
      refine .pure hi (hrun _ _ _ _ _ _ hcv h1) (RelT.of ?_)
      by_cases hml : m = l
      · rw [if_pos hml]
        refine .sl _ _ _ _ _ _ a _ L k1 k2 (by omega) (fun _ => by omega) (fun x hx hne => k5 x hx (by omega)) (fun _ _ _ _ => .inr (by omega)) k7
      · rw [if_neg hml]
        refine .sl _ _ _ _ _ _ _ _ L k1 k2 (by omega) ?_ ?_ ?_ ?_
        · intro ha
          have : a = none := by cases a <;> simp_all
          have := k4 this; omega
        · intro y hy hne
          cases a with
          | none => cases hy
          | some a =>
            simp only [Option.map_some, Option.some.injEq] at hy; subst hy
            unfold Addr.add; split
            · exact k5 a rfl (by omega)
            · rfl
        · intro blk bo sz hL
          rcases k6 blk bo sz hL with ⟨rfl, k8⟩ | k8
          · left
            refine ⟨by simp [add_eq, Nat.add_assoc], ?_⟩
            have : (m - l) * w' + l * w' = m * w' := by rw [← Nat.add_mul]; congr 1; omega
            have : m * w' ≤ cap * w' := Nat.mul_le_mul_right _ h5'
            dsimp only; omega
          · omega
        · intro hL; rw [k7 hL]; rfl
  · rename_i hX
    simp only [Option.map_eq_some_iff, Prod.mk.injEq] at h
    obtain ⟨⟨l, h'⟩, hb, rfl, rfl⟩ := h
    rw [hX] at hr
    generalize hcv : (Act.mk tmps df).eval x = cv at hr
    cases hr
    obtain ⟨m, h1, h2, h3, h4, h5⟩ := run_bounds (P := P) (w := w) (df := df) (isSlice := true) hf hlo hhi hmx (Nat.le_refl 0) hb
    refine .pure hi (hrun _ _ _ _ _ _ hcv h1) (RelT.of ?_)
    obtain rfl : h' = 0 := by omega
    obtain rfl : l = 0 := by omega
    obtain rfl : m = 0 := by omega
    exact RelV.nils
  · cases h

theorem s_slca (hf : Fr fb V g w B e tmps) (hi : Inv CR base g σ w) {x : Operand} {X : Opd} {t el : TypeId} {n wd : Nat} {lo hi' : Option Operand} {Lo Hi : Option Opd} (hx : opdC x = some X)
    (ht : P.underlying t = some (.array n el)) (hw : sizeC P el = some wd) (hlo : optC lo = some Lo) (hhi : optC hi' = some Hi)
    (h : sop e σ (.slca n wd X Lo Hi) = some (d, σ')) (o : Oper) (ho : o.op = .slice t x lo hi' none) : Does P CR base g w B e (Act.mk tmps df).eval o d σ' := by
  have hr := hf.opd (df := df) hx
  have hrun : ∀ (b o' l h m : Nat), (Act.mk tmps df).eval x = .pointer (some ⟨b, o', none⟩) →
      (Instr.sliceBounds false n n (lo.map (Act.mk tmps df).eval) (hi'.map (Act.mk tmps df).eval) ((none : Option Operand).map (Act.mk tmps df).eval)).run P w = .ok (l, h, m) w →
      (execOp (Act.mk tmps df).eval o).run P w = .ok (.value (.slice (some (if m = l then ⟨b, o', none⟩ else ⟨b, o' + l * wd, none⟩)) (h - l) (m - l))) w := by
    intro b o' l h m he hb
    simp only [Option.map_none] at hb
    simp [execOp, ho, Instr.sliceAt, run_under ht, he, Instr.sureAddr, hb, run_sizeOf hw, add_eq]
  simp only [sop] at h
  split at h
  · rename_i cs hX
    simp only [Option.map_eq_some_iff, Prod.mk.injEq] at h
    obtain ⟨⟨l, h'⟩, hb, rfl, rfl⟩ := h
    rw [hX] at hr
    generalize hcv : (Act.mk tmps df).eval x = cv at hr
    cases hr with
    | cref _ b o' vs k1 k2 =>
      obtain ⟨m, h1, h2', h3', h4', h5'⟩ := run_bounds (P := P) (w := w) (df := df) (isSlice := false) hf hlo hhi (mx := none) rfl (Nat.le_refl n) hb
      refine .pure hi (hrun _ _ _ _ _ hcv h1) (RelT.of ?_)
      by_cases hml : m = l
      · rw [if_pos hml]
        obtain rfl : h' = l := by omega
        simp only [Nat.sub_self]
        exact .lst _ _ _ _ [] (by omega) (fun _ _ hh => by simp at hh) (fun _ => rfl) (by simpa using RelL.nil)
      · rw [if_neg hml]
        exact .lst _ _ _ _ ((vs.drop (l * wd)).take ((h' - l) * wd)) (by omega) (row_take (row_drop k1 _) _) (fun _ => rfl) ((k2.drop _).take _)
  · rename_i l0 i0 v off hX
    split at h
    case h_2 => cases h
    rename_i cs hcs
    split at h
    case isFalse => cases h
    rename_i hlen
    simp only [Option.map_eq_some_iff, Prod.mk.injEq] at h
    obtain ⟨⟨l, h'⟩, hb, rfl, rfl⟩ := h
    rw [hX] at hr
    generalize hcv : (Act.mk tmps df).eval x = cv at hr
    cases hr with
    | ref _ _ _ _ b o1 L k1 k2 k3 k4 =>
      obtain ⟨m, h1, h2', h3', h4', h5'⟩ := run_bounds (P := P) (w := w) (df := df) (isSlice := false) hf hlo hhi (mx := none) rfl (Nat.le_refl n) hb
      refine .pure hi (hrun _ _ _ _ _ hcv h1) (RelT.of ?_)
      refine .sl _ _ _ _ _ _ _ _ L k1 k2 (by omega) (fun hh => by cases hh) (fun x hx _ => by cases hx; split <;> rfl) ?_ ?_
      · intro blk bo sz hL
        obtain ⟨rfl, rfl⟩ := k3 blk bo sz hL
        by_cases hml : m = l
        · exact .inr (by omega)
        · left
          rw [if_neg hml]
          refine ⟨by simp [Nat.add_assoc], ?_⟩
          subst hL
          -- the block is as long as its cells say
          unfold cells? at hcs
          split at hcs
          case h_2 => cases hcs
          rename_i v' cs' hblk
          split at hcs
          case isFalse => cases hcs
          rename_i hv; subst hv; cases hcs
          obtain ⟨b0, hb0, hrel⟩ := hi.dom _ _ _ k1
          rw [hblk] at hb0; cases hb0
          obtain ⟨_, ca, el', hheap, hsz, hle, _⟩ := hrel
          have : (m - l) * wd + l * wd = m * wd := by rw [← Nat.add_mul]; congr 1; omega
          have : m * wd ≤ n * wd := Nat.mul_le_mul_right _ h5'
          dsimp only; omega
      · intro hL; exact absurd hL k4
  · cases h

end ops
end Go.Abs

/-
  Composites, made slices, equality of rows.
-/
set_option linter.unusedVariables false
set_option linter.unusedSimpArgs false
namespace Go.Abs
open Go

theorem set_row (off : Nat) : ∀ (l : List Value) (k : Nat) (a : Array Value), off + k + l.length ≤ a.size →
    ((l.zipIdx k).foldl (fun (cs : Array Value) (p : Value × Nat) => cs.setIfInBounds (off + p.2) p.1) a).toList = a.toList.take (off + k) ++ l ++ a.toList.drop (off + k + l.length)
  | [], k, a, h => by simp
  | v :: l, k, a, h => by
    simp only [List.length_cons] at h
    simp only [List.zipIdx_cons, List.foldl_cons]
    rw [set_row off l (k + 1) _ (by simp; omega)]
    simp only [Array.toList_setIfInBounds, List.length_cons]
    have hlt : off + k < a.toList.length := by simp; omega
    rw [show off + (k + 1) = off + k + 1 from by omega]
    have h1 : (a.toList.set (off + k) v).take (off + k + 1) = a.toList.take (off + k) ++ [v] := by
      rw [List.take_succ_eq_append_getElem (by simpa using hlt)]
      simp [List.take_set_of_le]
    rw [h1, List.drop_set_of_lt (by omega)]
    simp only [List.append_assoc, List.singleton_append]
    rw [show off + k + 1 + l.length = off + k + (l.length + 1) from by omega]

section
variable {base fb : Nat} {V : List Nat} {g : G} {w : World} {B : Nat → Nat} {e : Env} {tmps : Array Value} {df : List Deferred}

theorem fill_rel (hf : Fr fb V g w B e tmps) {place : Nat → Option (Nat × Nat)} : ∀ {ps : List (Nat × Operand)} {parts : List (Nat × Nat × Opd)} {cs ds : List D} {vs : Array Value}, partsC place ps = some parts →
    RelL g cs vs.toList → (∀ x ∈ vs.toList, x.oneCell' = true) → fillD e parts cs = some ds →
    ∃ vs', Instr.fill place vs (ps.map fun p => (p.1, (Act.mk tmps df).eval p.2)) = some vs' ∧ RelL g ds vs'.toList ∧ ∀ x ∈ vs'.toList, x.oneCell' = true
  | [], parts, cs, ds, vs, hp, hr, h1, hfill => by
    simp only [partsC, Option.some.injEq] at hp; subst hp
    simp only [fillD, Option.some.injEq] at hfill; subst hfill
    exact ⟨vs, rfl, hr, h1⟩
  | (i, x) :: ps, parts, cs, ds, vs, hp, hr, h1, hfill => by
    simp only [partsC] at hp
    split at hp
    case h_2 => cases hp
    rename_i o s y r' hpl hx hps
    cases hp
    simp only [fillD] at hfill
    split at hfill
    case h_2 => cases hfill
    rename_i p hcells
    split at hfill
    case isFalse => cases hfill
    rename_i hc
    obtain ⟨hlen, hle⟩ := hc
    obtain ⟨hrp, h1p⟩ := (hf.opd (df := df) hx).cells hcells
    have hsz : ((Act.mk tmps df).eval x).cells.size = s := by have := hrp.length; simp at this; omega
    have hle' : o + s ≤ vs.size := by have := hr.length; simp at this; omega
    have hset := set_row o ((Act.mk tmps df).eval x).cells.toList 0 vs (by simp; omega)
    simp only [Nat.add_zero, Array.length_toList, hsz] at hset
    obtain ⟨vs', e1, e2, e3⟩ := fill_rel hf (vs := (((Act.mk tmps df).eval x).cells.toList.zipIdx 0).foldl (fun (cs : Array Value) (p : Value × Nat) => cs.setIfInBounds (o + p.2) p.1) vs) hps
      (by rw [hset]; exact ((hr.take o).append hrp).append (hr.drop (o + s))) (by
        rw [hset]; intro z hz
        simp only [List.mem_append] at hz
        rcases hz with (hz | hz) | hz
        · exact h1 z (List.mem_of_mem_take hz)
        · exact h1p z hz
        · exact h1 z (List.mem_of_mem_drop hz)) hfill
    refine ⟨vs', ?_, e2, e3⟩
    simp only [List.map_cons, Instr.fill, hpl, hsz]
    rw [if_neg (by simp; omega)]
    rw [← e1]
    congr 1
    rw [← Array.foldl_toList]
    simp [Array.toList_zipIdx]
end

theorem flat_zero (z : Array Value) (hz : 0 < z.size) : ∀ n, (List.range (n * z.size)).map (fun i => z[i % z.size]!) = (List.range n).flatMap fun _ => z.toList
  | 0 => by simp
  | n + 1 => by
    rw [List.range_succ, List.flatMap_append, ← flat_zero z hz n, Nat.add_mul, Nat.one_mul, List.range_add, List.map_append, List.map_map]
    congr 1
    simp only [List.flatMap_cons, List.flatMap_nil, List.append_nil]
    apply List.ext_getElem (by simp)
    intro i h1 h2
    simp only [List.getElem_map, List.getElem_range, Function.comp]
    have hi : i < z.size := by simpa using h2
    have : (n * z.size + i) % z.size = i := by rw [Nat.add_comm, Nat.add_mul_mod_self_right, Nat.mod_eq_of_lt hi]
    rw [this]
    simp [hi]

theorem len_flat {α : Type} (z : List α) : ∀ n : Nat, ((List.range n).flatMap fun _ => z).length = n * z.length
  | 0 => by simp
  | n + 1 => by rw [List.range_succ, List.flatMap_append, List.length_append, len_flat z n, Nat.add_mul]; simp

theorem RelL.flatMap {g : G} {z : List D} {v : List Value} (h : RelL g z v) : ∀ n : Nat, RelL g ((List.range n).flatMap fun _ => z) ((List.range n).flatMap fun _ => v)
  | 0 => by simpa using RelL.nil
  | n + 1 => by
    rw [List.range_succ, List.flatMap_append, List.flatMap_append]
    exact (RelL.flatMap h n).append (by simpa using h)

section ops
variable {P : Program} {CR : CRel} {base fb : Nat} {V : List Nat} {g : G} {σ σ' : Stack} {w : World} {B : Nat → Nat} {e : Env} {tmps : Array Value} {df : List Deferred}
  {d : D}

theorem run_places (fs : List Field) (h : fs.all (fun f => (sizeC P f.type).isSome) = true) :
    (fs.mapM (fun f => (do pure (f.offset, ← sizeOf f.type) : Sem (Nat × Nat)))).run P w = .ok (fs.map fun f => (f.offset, (sizeC P f.type).getD 0)) w := by
  induction fs with
  | nil => simp
  | cons f fs ih =>
    simp only [List.all_cons, Bool.and_eq_true] at h
    obtain ⟨s, hs⟩ := Option.isSome_iff_exists.1 h.1
    rw [List.mapM_cons]
    simp only [Sem.run_bind, run_sizeOf hs, Result.andThen_ok, Sem.run_pure, ih h.2]
    simp [hs]

theorem s_bld_struct (hf : Fr fb V g w B e tmps) (hi : Inv CR base g σ w) {t : TypeId} {fs : Array Field} {z : List D} {ps : Array (Nat × Operand)} {parts : List (Nat × Nat × Opd)}
    (ht : P.underlying t = some (.struct fs)) (hz : zeroC P t = some z) (hall : fs.toList.all (fun f => (sizeC P f.type).isSome) = true) (hp : partsC (fieldsC P fs) ps.toList = some parts)
    (h : sop e σ (.bld z parts) = some (d, σ')) (o : Oper) (ho : o.op = .build t ps) : Does P CR base g w B e (Act.mk tmps df).eval o d σ' := by
  obtain ⟨i, v, hinfo, hzero, hrz, h1⟩ := zeroC_rel g hz
  simp only [sop, Option.bind_eq_bind, Option.bind_eq_some_iff] at h
  obtain ⟨cs, hcs, h⟩ := h
  cases h
  obtain ⟨vs', e1, e2, e3⟩ := fill_rel (df := df) hf hp hrz h1 hcs
  have hplace : (fun i => (fs.toList.map fun f => (f.offset, (sizeC P f.type).getD 0)).toArray[i]?) = fieldsC P fs := by
    funext i
    simp only [fieldsC, List.getElem?_toArray, List.getElem?_map, Array.getElem?_toList]
    cases hfi : fs[i]? with
    | none => rfl
    | some f =>
      have hm : f ∈ fs.toList := by
        rw [← Array.getElem?_toList] at hfi; exact List.mem_of_getElem? hfi
      obtain ⟨s, hs⟩ := Option.isSome_iff_exists.1 (List.all_eq_true.1 hall f hm)
      simp [hs]
  refine .pure hi (c := .agg vs') ?_ (RelT.of (.agg _ _ e2 e3))
  have hm : (fs.mapM (fun f => (do pure (f.offset, ← sizeOf f.type) : Sem (Nat × Nat)))).run P w = .ok (fs.toList.map fun f => (f.offset, (sizeC P f.type).getD 0)).toArray w := by
    rw [Array.mapM_eq_mapM_toList, Sem.run_map, run_places fs.toList hall]
    simp
  simp only [execOp, ho, Instr.build, Sem.run_bind, run_zeroValue hinfo hzero, run_under ht, Result.andThen_ok, hm]
  rw [hplace]
  simp only [Array.toList_map]
  rw [show (ps.toList.map fun x => match x with | (i, x) => (i, (Act.mk tmps df).eval x)) = ps.toList.map fun p => (p.1, (Act.mk tmps df).eval p.2) from rfl, e1]
  simp

theorem s_bld_array (hf : Fr fb V g w B e tmps) (hi : Inv CR base g σ w) {t el : TypeId} {n wd : Nat} {z : List D} {ps : Array (Nat × Operand)} {parts : List (Nat × Nat × Opd)}
    (ht : P.underlying t = some (.array n el)) (hw : sizeC P el = some wd) (hz : zeroC P t = some z) (hp : partsC (fun i => some (i * wd, wd)) ps.toList = some parts)
    (h : sop e σ (.bld z parts) = some (d, σ')) (o : Oper) (ho : o.op = .build t ps) : Does P CR base g w B e (Act.mk tmps df).eval o d σ' := by
  obtain ⟨i, v, hinfo, hzero, hrz, h1⟩ := zeroC_rel g hz
  simp only [sop, Option.bind_eq_bind, Option.bind_eq_some_iff] at h
  obtain ⟨cs, hcs, h⟩ := h
  cases h
  obtain ⟨vs', e1, e2, e3⟩ := fill_rel (df := df) hf hp hrz h1 hcs
  refine .pure hi (c := .agg vs') ?_ (RelT.of (.agg _ _ e2 e3))
  simp only [execOp, ho, Instr.build, Sem.run_bind, run_zeroValue hinfo hzero, run_under ht, Result.andThen_ok, run_sizeOf hw]
  simp only [Array.toList_map]
  rw [show (ps.toList.map fun x => match x with | (i, x) => (i, (Act.mk tmps df).eval x)) = ps.toList.map fun p => (p.1, (Act.mk tmps df).eval p.2) from rfl, e1]
  simp

theorem run_bsl (hf : Fr fb V g w B e tmps) {t el : TypeId} {n wd : Nat} {z : List D} {ps : Array (Nat × Operand)} {parts : List (Nat × Nat × Opd)} {cs : List D}
    (ht : P.underlying t = some (.slice el)) (hw : sizeC P el = some wd) (hz : zeroC P el = some z) (hpos : 0 < wd) (hzl : z.length = wd) (hbig : n * wd ≤ 2 ^ 24)
    (hp : partsC (fun i => some (i * wd, wd)) ps.toList = some parts) (hcs : fillD e parts ((List.range n).flatMap fun _ => z) = some cs) (o : Oper) (ho : o.op = .buildSlice t n ps) :
    ∃ vs : Array Value, (execOp (Act.mk tmps df).eval o).run P w = .ok (.value (.slice (some ⟨w.heap.size, 0, none⟩) n n)) (w.alloc (.cells vs el)) ∧ RelL g cs vs.toList ∧ (∀ x ∈ vs.toList, x.oneCell' = true) := by
  obtain ⟨i, v, hinfo, hzero, hrz, h1⟩ := zeroC_rel g hz
  have hvs : v.cells.size = wd := by have := hrz.length; simp at this; omega
  have hflat := flat_zero v.cells (by omega) n
  obtain ⟨vs', e1, e2, e3⟩ := fill_rel (df := df) hf (vs := ((List.range n).flatMap fun _ => v.cells.toList).toArray) hp (by simpa using hrz.flatMap n) (by
    intro x hx; simp only [List.mem_flatMap] at hx; obtain ⟨_, _, hx⟩ := hx; exact h1 x hx) hcs
  refine ⟨vs', ?_, e2, e3⟩
  have harr : (Array.range (n * wd)).map (fun x => v.cells[x % v.cells.size]!) = ((List.range n).flatMap fun _ => v.cells.toList).toArray := by
    rw [← hflat, hvs]
    apply Array.ext'
    simp
  by_cases hn : n = 0
  · subst hn
    have e1' : Instr.fill (fun i => some (i * wd, wd)) #[] (ps.toList.map fun p => (p.1, (Act.mk tmps df).eval p.2)) = some vs' := by simpa using e1
    simp only [execOp, ho, Instr.buildSlice, Sem.run_bind, run_under ht, Result.andThen_ok, run_sizeOf hw, Sem.run_ite]
    simp only [Nat.zero_mul]
    rw [if_neg (by omega)]
    simp only [Array.toList_map]
    rw [show (ps.toList.map fun x => match x with | (i, x) => (i, (Act.mk tmps df).eval x)) = ps.toList.map fun p => (p.1, (Act.mk tmps df).eval p.2) from rfl]
    simp [e1', newRow, Array.range]
  · have hne : n * wd ≠ 0 := Nat.mul_ne_zero hn (by omega)
    simp only [execOp, ho, Instr.buildSlice, Sem.run_bind, run_under ht, Result.andThen_ok, run_sizeOf hw, Sem.run_ite]
    rw [if_neg (by omega)]
    simp only [hne, if_false, Sem.run_bind, run_zeroValue hinfo hzero, Result.andThen_ok, Sem.run_pure, harr]
    simp only [Array.toList_map]
    rw [show (ps.toList.map fun x => match x with | (i, x) => (i, (Act.mk tmps df).eval x)) = ps.toList.map fun p => (p.1, (Act.mk tmps df).eval p.2) from rfl, e1]
    simp [newRow]

theorem s_bsi (hf : Fr fb V g w B e tmps) (hi : Inv CR base g σ w) {t el : TypeId} {n wd : Nat} {z : List D} {ps : Array (Nat × Operand)} {parts : List (Nat × Nat × Opd)}
    (ht : P.underlying t = some (.slice el)) (hw : sizeC P el = some wd) (hz : zeroC P el = some z) (hpos : 0 < wd) (hzl : z.length = wd) (hbig : n * wd ≤ 2 ^ 24)
    (hp : partsC (fun i => some (i * wd, wd)) ps.toList = some parts) (h : sop e σ (.bsi n wd ((List.range n).flatMap fun _ => z) parts) = some (d, σ')) (o : Oper) (ho : o.op = .buildSlice t n ps) :
    Does P CR base g w B e (Act.mk tmps df).eval o d σ' := by
  simp only [sop, Option.bind_eq_bind, Option.bind_eq_some_iff] at h
  obtain ⟨cs, hcs, h⟩ := h
  cases h
  obtain ⟨vs, hrun, hr, h1⟩ := run_bsl (P := P) (w := w) (df := df) hf ht hw hz hpos hzl hbig hp hcs o ho
  obtain ⟨i1, i2, i3⟩ := hi.newImm vs.toList vs el (fun j y hy => ⟨by simpa using hy, h1 y (List.mem_of_getElem? hy)⟩)
  exact .val _ hrun i2 i1 (.lst _ _ _ _ _ (Nat.le_refl _) i3 (fun _ => rfl) (hr.mono i2.le))

theorem s_bsm (hf : Fr fb V g w B e tmps) (hi : Inv CR base g σ w) {t el : TypeId} {n wd : Nat} {z : List D} {ps : Array (Nat × Operand)} {parts : List (Nat × Nat × Opd)}
    (ht : P.underlying t = some (.slice el)) (hw : sizeC P el = some wd) (hz : zeroC P el = some z) (hpos : 0 < wd) (hzl : z.length = wd) (hbig : n * wd ≤ 2 ^ 24)
    (hp : partsC (fun i => some (i * wd, wd)) ps.toList = some parts) (h : sop e σ (.bsm n wd ((List.range n).flatMap fun _ => z) parts) = some (d, σ')) (o : Oper) (ho : o.op = .buildSlice t n ps) :
    Does P CR base g w B e (Act.mk tmps df).eval o d σ' := by
  simp only [sop, Option.bind_eq_bind, Option.bind_eq_some_iff] at h
  obtain ⟨cs, hcs, ⟨l, i, σ1⟩, hn, h⟩ := h
  cases h
  obtain ⟨vs, hrun, hr, h1⟩ := run_bsl (P := P) (w := w) (df := df) hf ht hw hz hpos hzl hbig hp hcs o ho
  obtain ⟨i1, i2⟩ := hi.newCells hn vs.toList vs el hr (by simp) (fun j y hy => ⟨by simpa using hy, h1 y (List.mem_of_getElem? hy)⟩)
  refine .val _ hrun i2 i1 (.sl l i 0 0 n wd _ _ _ G.setLoc_same (Nat.le_refl _) ⟨Nat.le_refl _, by have := Nat.le_mul_of_pos_right n hpos; omega⟩ (fun hh => by cases hh) (fun x hx _ => by cases hx; rfl) ?_ (fun hh => by cases hh))
  intro blk bo sz hL
  cases hL
  refine .inl ⟨rfl, ?_⟩
  have hlen : cs.length = vs.size := by have := hr.length; simpa using this
  have hl2 : ∀ {parts : List (Nat × Nat × Opd)} {a b : List D}, fillD e parts a = some b → b.length = a.length := by
    intro parts
    induction parts with
    | nil => intro a b hb; simp only [fillD, Option.some.injEq] at hb; rw [hb]
    | cons q r ih =>
      intro a b hb
      obtain ⟨o1, s1, x1⟩ := q
      simp only [fillD] at hb
      split at hb
      · rename_i p _
        split at hb
        · rename_i hc
          have := ih hb
          simp at this; omega
        · cases hb
      · cases hb
  have := hl2 hcs
  have h3 : ((List.range n).flatMap fun _ => z).length = n * wd := by
    rw [len_flat, hzl]
  omega

theorem s_mks (hf : Fr fb V g w B e tmps) (hi : Inv CR base g σ w) {x y : Operand} {X Y : Opd} {t el : TypeId} {wd bytes : Nat} {z : List D} (hx : opdC x = some X) (hy : opdC y = some Y)
    (ht : P.underlying t = some (.slice el)) (hw : sizeC P el = some wd) (hb : (P.info? el).map (·.bytes) = some bytes) (hz : zeroC P el = some z) (hpos : 0 < wd) (hbpos : 0 < bytes)
    (h : sop e σ (.mks wd bytes z X Y) = some (d, σ')) (o : Oper) (ho : o.op = .makeSlice t x y) : Does P CR base g w B e (Act.mk tmps df).eval o d σ' := by
  have hr := hf.opd (df := df) hx
  have hr' := hf.opd (df := df) hy
  obtain ⟨i0, v, hinfo, hzero, hrz, h1⟩ := zeroC_rel g hz
  simp only [sop] at h
  split at h
  case h_2 => cases h
  rename_i n m hX hY
  split at h
  case isFalse => cases h
  rename_i hc
  obtain ⟨hn0, rfl, hroom, hzl⟩ := hc
  rw [hX] at hr; rw [hY] at hr'
  have e1 := hr.int_inv
  have e2 := hr'.int_inv
  simp only [Option.bind_eq_bind, Option.bind_eq_some_iff] at h
  obtain ⟨⟨l, i, σ1⟩, hn, h⟩ := h
  cases h
  have hvs : v.cells.size = wd := by have := hrz.length; simp at this; omega
  have hbytes : i0.bytes = bytes := by rw [hinfo] at hb; simpa using hb
  have hn63 : n < 2 ^ 63 := by
    have h1 : n * 1 ≤ n * bytes := Int.mul_le_mul_of_nonneg_left (by omega) hn0
    simp only [room] at hroom
    omega
  have hwrap : IntKind.i64.wrap n = n := by
    simp only [IntKind.wrap, IntKind.bits, IntKind.signed]
    have : n % 2 ^ 64 = n := Int.emod_eq_of_lt hn0 (by omega)
    simp only [this]
    rw [if_neg (by simp; omega)]
  have hflat := flat_zero v.cells (by omega) n.toNat
  have hrel : RelL g ((List.range n.toNat).flatMap fun _ => z) (((List.range n.toNat).flatMap fun _ => v.cells.toList)) := hrz.flatMap _
  obtain ⟨i1, i2⟩ := hi.newCells hn ((List.range n.toNat).flatMap fun _ => v.cells.toList) ((List.range n.toNat).flatMap fun _ => v.cells.toList).toArray el hrel (by simp) (fun j y hy => ⟨by simpa using hy, by
    have hm := List.mem_of_getElem? hy
    simp only [List.mem_flatMap] at hm; obtain ⟨_, _, hm⟩ := hm; exact h1 y hm⟩)
  have hsz : ((List.range n.toNat).flatMap fun _ => v.cells.toList).toArray.size = n.toNat * wd := by
    rw [List.size_toArray, len_flat]; simp [hvs]
  refine .val (.slice (some ⟨w.heap.size, 0, none⟩) n.toNat n.toNat) ?_ i2 i1 (.sl l i 0 0 _ wd _ _ _ G.setLoc_same (Nat.le_refl _) ⟨Nat.le_refl _, by omega⟩ (fun hh => by cases hh) (fun x hx _ => by cases hx; rfl) ?_ (fun hh => by cases hh))
  · have hbn : (bytes : Int) * n ≤ 2 ^ 46 := by rw [Int.mul_comm]; simpa [room] using hroom
    have harr : (Array.range (n.toNat * wd)).map (fun x => v.cells[x % v.cells.size]!) = ((List.range n.toNat).flatMap fun _ => v.cells.toList).toArray := by
      rw [← hflat, hvs]
      apply Array.ext'
      simp
    have htoo : (decide (n < 0) || decide ((bytes : Int) * n > 2 ^ 48)) = false := by simp; omega
    have hcond : ¬ (((decide (n < 0) || decide ((bytes : Int) * n > 2 ^ 48)) = true ∨ n < 0) ∨ n > n) := by rw [htoo]; simp; omega
    simp only [execOp, ho, Instr.makeSlice, Sem.run_bind, run_under ht, Result.andThen_ok, e1, e2, asInt, asIntOf, Sem.run_pure, run_typeInfo hinfo, hwrap, hbytes, Sem.run_ite]
    rw [htoo]
    simp only [Bool.false_eq_true, false_or, Bool.false_or]
    rw [if_neg (by simp; omega)]
    by_cases hz0 : n.toNat = 0
    · have : ((List.range n.toNat).flatMap fun _ => v.cells.toList).toArray = #[] := by rw [hz0]; rfl
      rw [this]
      simp [run_askRoom, run_sizeOf hw, hz0, newRow, Go.Array.range_zero']
    · have hne : n.toNat * wd ≠ 0 := Nat.mul_ne_zero hz0 (by omega)
      simp only [run_askRoom, Result.andThen_ok, run_sizeOf hw, hne, if_false, Sem.run_bind, run_zeroValue hinfo hzero, Sem.run_pure, harr]
      simp [newRow]
  · intro blk bo sz hL
    cases hL
    exact .inl ⟨rfl, by rw [hsz]; simp⟩

end ops
end Go.Abs

/-
  Freezing: blocks of the store become plain data that nobody writes.
-/
set_option linter.unusedVariables false
set_option linter.unusedSimpArgs false
namespace Go.Abs
open Go

section
variable {CR : CRel} {base : Nat} {g : G} {σ : Stack} {w : World}

theorem Inv.kill (hi : Inv CR base g σ w) {l i v : Nat} {cs : List D} {L : Loc} (hL : g.loc l i = some L) (hb : blk? σ l i = some (.cells v cs)) (hok : L.okv v) :
    ∃ g', Inv CR base g' (setBlk σ l i .dead) w ∧ Ev g w g' w ∧
      (L = .virt v ∧ cs = [] ∨ ∃ b o vs sz, L = .at b o v sz ∧ g'.row b o vs ∧ RelL g cs vs) := by
  obtain ⟨b0, hb0, hrel⟩ := hi.dom l i L hL
  rw [hb] at hb0; cases hb0
  cases L with
  | dead => exact hrel.elim
  | lp x => exact hrel.elim
  | mp x => exact hok.elim
  | it x => exact hok.elim
  | ob x _ => exact hok.elim
  | virt v' =>
    obtain ⟨rfl, rfl⟩ := hrel
    have hle : g.le (g.setLoc l i .dead) := G.le_setLoc fun L0 e => by rw [hL] at e; cases e; simp [Loc.le]
    refine ⟨g.setLoc l i .dead, hi.turn l i hle (fun l' i' c => blk?_setBlk_other c) (fun l' i' c => G.setLoc_other c) (fun _ _ _ _ _ _ _ => rfl) ?_ hi.imm ?_ ?_ (Nat.le_refl _) ⟨_, G.setLoc_same⟩ (fun _ _ _ => rfl), ⟨hle, rfl, rfl, rfl, Nat.le_refl _, fun _ _ _ => rfl, ?_, fun b o v hv => .inl hv⟩, .inl ⟨rfl, rfl⟩⟩
    · intro L e; rw [G.setLoc_same] at e; cases e; exact ⟨_, blk?_setBlk hb, trivial⟩
    · intro l' i' L b e eb o
      by_cases c : l' = l ∧ i' = i
      · obtain ⟨rfl, rfl⟩ := c; rw [G.setLoc_same] at e; cases e; cases eb
      · rw [G.setLoc_other c] at e; exact hi.sep l' i' L b e eb o
    · intro L b e eb; rw [G.setLoc_same] at e; cases e; cases eb
    · intro b hb'
      obtain ⟨l', i', L, e, eb⟩ := hb'
      by_cases c : l' = l ∧ i' = i
      · obtain ⟨rfl, rfl⟩ := c; rw [G.setLoc_same] at e; cases e; cases eb
      · rw [G.setLoc_other c] at e; exact .inl ⟨l', i', L, e, eb⟩
  | «at» b o v' sz =>
    obtain ⟨rfl, ca, el, hheap, hsz, hlen, vs, hr, hvs⟩ := hrel
    -- the claims: the cells of the row that are there
    let g' : G := ⟨fun l' i' => if l' = l ∧ i' = i then some .dead else g.loc l' i', fun b' o' => if b' = b then (if o ≤ o' then vs[o' - o]? else none) else g.imm b' o'⟩
    have hsame : g'.loc l i = some .dead := by simp [g']
    have hother : ∀ l' i', ¬ (l' = l ∧ i' = i) → g'.loc l' i' = g.loc l' i' := fun l' i' c => by simp only [g']; rw [if_neg c]
    have hnob : ∀ o', g.imm b o' = none := hi.sep l i _ b hL rfl
    have hle : g.le g' := by
      refine ⟨fun l' i' L' e => ?_, fun b' o' x e => ?_⟩
      · by_cases c : l' = l ∧ i' = i
        · obtain ⟨rfl, rfl⟩ := c; rw [hL] at e; cases e; exact ⟨.dead, hsame, by simp [Loc.le]⟩
        · exact ⟨L', by rw [hother _ _ c]; exact e, L'.le_refl⟩
      · have : b' ≠ b := fun h => by subst h; rw [hnob] at e; cases e
        simp only [g']; rw [if_neg this]; exact e
    refine ⟨g', hi.turn l i hle (fun l' i' c => blk?_setBlk_other c) hother (fun _ _ _ _ _ _ _ => rfl) ?_ ?_ ?_ ?_ (Nat.le_refl _) ⟨.dead, by simp [g']⟩ (fun _ _ _ => rfl), ⟨hle, rfl, rfl, rfl, Nat.le_refl _, fun _ _ _ => rfl, ?_, ?_⟩, .inr ⟨b, o, vs, sz, rfl, ?_, hr⟩⟩
    · intro L e; rw [hsame] at e; cases e; exact ⟨_, blk?_setBlk hb, trivial⟩
    · intro b' o' x e
      simp only [g'] at e
      split at e
      · rename_i hb'; subst hb'
        split at e
        · rename_i hoo
          obtain ⟨h1, h2⟩ := hvs _ x e
          rw [show o + (o' - o) = o' from by omega] at h1
          exact ⟨by simp only [World.cell?, hheap]; simpa using h1, h2⟩
        · cases e
      · exact hi.imm b' o' x e
    · intro l' i' L' b' e eb o'
      by_cases c : l' = l ∧ i' = i
      · obtain ⟨rfl, rfl⟩ := c; rw [hsame] at e; cases e; cases eb
      · rw [hother _ _ c] at e
        have : b' ≠ b := fun h => by subst h; exact c (hi.inj _ _ _ _ _ _ b' e hL eb rfl)
        simp only [g']; rw [if_neg this]; exact hi.sep l' i' L' b' e eb o'
    · intro L b' e eb; rw [hsame] at e; cases e; cases eb
    · intro b' hb'
      obtain ⟨l', i', L', e, eb⟩ := hb'
      by_cases c : l' = l ∧ i' = i
      · obtain ⟨rfl, rfl⟩ := c; rw [hsame] at e; cases e; cases eb
      · rw [hother _ _ c] at e; exact .inl ⟨l', i', L', e, eb⟩
    · intro b' o' x e
      simp only [g'] at e
      split at e
      · rename_i hb'; subst hb'; exact .inr (.inl ⟨l, i, _, hL, rfl⟩)
      · exact .inl e
    · intro j x hx; simp only [g', if_true]; rw [if_pos (by omega), show o + j - o = j from by omega]; exact hx

def FrzOk (CR : CRel) (base : Nat) (f : D → Stack → D × Stack) : Prop :=
  ∀ (d : D) (σ : Stack) (g : G) (w : World) (c : Value), Inv CR base g σ w → RelV g d c →
    ∃ g', Inv CR base g' (f d σ).2 w ∧ Ev g w g' w ∧ RelV g' (f d σ).1 c

theorem frzL_ok {f : D → Stack → D × Stack} (hf : FrzOk CR base f) : ∀ (ds : List D) (σ : Stack) (g : G) (w : World) (cs : List Value), Inv CR base g σ w → RelL g ds cs →
    ∃ g', Inv CR base g' (frz.frzL f ds σ).2 w ∧ Ev g w g' w ∧ RelL g' (frz.frzL f ds σ).1 cs
  | [], σ, g, w, cs, hi, hr => by cases hr; exact ⟨g, hi, Ev.refl g w, .nil⟩
  | d :: ds, σ, g, w, cs, hi, hr => by
    cases hr with
    | cons _ c _ cs h1 h2 =>
      obtain ⟨g1, i1, e1, r1⟩ := hf d σ g w c hi h1
      obtain ⟨g2, i2, e2, r2⟩ := frzL_ok hf ds (f d σ).2 g1 w cs i1 (h2.mono e1.le)
      exact ⟨g2, i2, e1.trans e2, .cons _ _ _ _ (r1.mono e2.le) r2⟩

theorem frz_ok (l : Nat) : ∀ n, FrzOk CR base (frz l n)
  | 0, d, σ, g, w, c, hi, hr => ⟨g, hi, Ev.refl g w, .undef c⟩
  | n + 1, d, σ, g, w, c, hi, hr => by
    have ih := frzL_ok (CR := CR) (base := base) (frz_ok l n)
    simp only [frz]
    split
    · exact ⟨g, hi, Ev.refl g w, hr⟩
    cases d with
    | agg ds =>
      cases hr with
      | agg _ cs hr h1 =>
        obtain ⟨g', i1, e1, r1⟩ := ih ds σ g w _ hi hr
        exact ⟨g', i1, e1, .agg _ cs r1 h1⟩
    | tup ds =>
      cases hr with
      | tup _ cs hr =>
        obtain ⟨g', i1, e1, r1⟩ := ih ds σ g w _ hi hr
        exact ⟨g', i1, e1, .tup _ cs r1⟩
    | cref ds =>
      cases hr with
      | cref _ b o vs h1 hr =>
        obtain ⟨g', i1, e1, r1⟩ := ih ds σ g w _ hi hr
        exact ⟨g', i1, e1, .cref _ b o vs (G.row_le e1.le h1) r1⟩
    | lst m ds =>
      cases hr with
      | lstn => exact ⟨g, by simpa [frz.frzL] using hi, Ev.refl g w, by simpa [frz.frzL] using RelV.lstn⟩
      | lst _ _ a cap vs hn h1 h2 hr =>
        obtain ⟨g', i1, e1, r1⟩ := ih ds σ g w _ hi hr
        exact ⟨g', i1, e1, .lst _ _ a cap vs hn (G.row_le e1.le h1) h2 r1⟩
    | fn f a b =>
      cases hr with
      | fn _ _ _ a' b' h1 h2 =>
        obtain ⟨g1, i1, e1, r1⟩ := ih a σ g w _ hi h1
        obtain ⟨g2, i2, e2, r2⟩ := ih b _ g1 w _ i1 (h2.mono e1.le)
        exact ⟨g2, i2, e1.trans e2, .fn f _ _ a' b' (r1.mono e2.le) r2⟩
    | ref l' i v off =>
      dsimp only
      split
      · exact ⟨g, hi, Ev.refl g w, hr⟩
      · exact ⟨g, hi, Ev.refl g w, .undef c⟩
    | yld l' i =>
      dsimp only
      split
      · exact ⟨g, hi, Ev.refl g w, hr⟩
      · exact ⟨g, hi, Ev.refl g w, .undef c⟩
    | sl l' i v off m wd =>
      dsimp only
      split
      · exact ⟨g, hi, Ev.refl g w, hr⟩
      · split
        · rename_i cs hcs
          cases hr with
          | sl _ _ _ _ _ _ a cap L h1 h2 h3 h4 h5 h6 h7 =>
            unfold cells? at hcs
            split at hcs
            case h_2 => cases hcs
            rename_i v' cs' hblk
            split at hcs
            case isFalse => cases hcs
            rename_i hv; subst hv; cases hcs
            obtain ⟨g1, i1, e1, hk⟩ := hi.kill h1 hblk h2
            rcases hk with ⟨rfl, rfl⟩ | ⟨b, o, vs, sz, rfl, hrow, hrl⟩
            · obtain rfl := h7 rfl
              obtain rfl := h4 rfl
              obtain rfl : m = 0 := by omega
              exact ⟨g1, by simpa [frz.frzL] using i1, e1, by simpa [frz.frzL] using RelV.lstn⟩
            · obtain ⟨g2, i2, e2, r2⟩ := ih ((cs.drop off).take (m * wd)) _ g1 w ((vs.drop off).take (m * wd)) i1 (((hrl.drop off).take _).mono e1.le)
              refine ⟨g2, i2, e1.trans e2, ?_⟩
              rcases h6 b o sz rfl with ⟨rfl, h8⟩ | rfl
              · exact .lst _ _ _ _ ((vs.drop off).take (m * wd)) h3.1 (G.row_le e2.le (row_take (row_drop hrow off) _)) (fun _ => rfl) r2
              · obtain rfl : m = 0 := by omega
                cases a with
                | none => simpa [frz.frzL] using RelV.lstn (g := g2)
                | some a => exact .lst _ _ a _ [] (Nat.le_refl _) (fun _ _ hh => by simp at hh) (fun hh => absurd rfl hh) (by simpa [frz.frzL] using RelL.nil)
        · exact ⟨g, hi, Ev.refl g w, .undef c⟩
    | own s cs => cases hr
    | vr x s off => cases hr
    | emp => cases hr
    | undef => exact ⟨g, hi, Ev.refl g w, .undef c⟩
    | bool b => exact ⟨g, hi, Ev.refl g w, .undef c⟩
    | int k m => exact ⟨g, hi, Ev.refl g w, .undef c⟩
    | str s => exact ⟨g, hi, Ev.refl g w, .undef c⟩
    | nilp => exact ⟨g, hi, Ev.refl g w, .undef c⟩
    | nils => exact ⟨g, hi, Ev.refl g w, .undef c⟩
    | nilf => exact ⟨g, hi, Ev.refl g w, .undef c⟩
    | ifc t d => exact ⟨g, hi, Ev.refl g w, .undef c⟩
    | nili => exact ⟨g, hi, Ev.refl g w, .undef c⟩
end
end Go.Abs

/-
  Variables, stores, append.
-/
set_option linter.unusedVariables false
set_option linter.unusedSimpArgs false
namespace Go.Abs
open Go

section nilbs
variable {CR : CRel} {base : Nat}

theorem nilbs_ok {w : World} : ∀ (nb : List (Nat × Nat)) (cs cs' : List D) (σ σ' : Stack) (g : G) (vs : List Value), nilbs nb cs σ = some (cs', σ') → Inv CR base g σ w → RelL g cs vs →
    ∃ g', Inv CR base g' σ' w ∧ Ev g w g' w ∧ RelL g' cs' vs
  | [], cs, cs', σ, σ', g, vs, h, hi, hr => by
    simp only [nilbs, Option.some.injEq, Prod.mk.injEq] at h; obtain ⟨rfl, rfl⟩ := h
    exact ⟨g, hi, Ev.refl g w, hr⟩
  | (p, wd) :: nb, cs, cs', σ, σ', g, vs, h, hi, hr => by
    simp only [nilbs] at h
    split at h
    · rename_i hp
      simp only [Option.bind_eq_bind, Option.bind_eq_some_iff] at h
      obtain ⟨⟨l, i, σ1⟩, hn, h⟩ := h
      obtain ⟨i1, e1⟩ := hi.newVirt hn
      have hr' : RelL (g.setLoc l i (.virt 0)) (cs.set p (.sl l i 0 0 0 wd)) vs := by
        refine .of_get (by simp [hr.length]) fun j d c hd hc => ?_
        rw [List.getElem?_set] at hd
        split at hd
        · rename_i hpj; subst hpj
          split at hd
          · cases hd
            obtain ⟨c', hc', hrc⟩ := hr.get hp
            rw [hc] at hc'; cases hc'
            cases hrc
            exact .sl l i 0 0 0 wd none 0 (.virt 0) G.setLoc_same (Nat.le_refl _) (by omega) (fun _ => rfl) (fun _ hh => by cases hh) (fun _ _ _ hh => by cases hh) (fun _ => rfl)
          · cases hd
        · obtain ⟨c', hc', hrc⟩ := hr.get hd
          rw [hc] at hc'; cases hc'
          exact hrc.mono e1.le
      obtain ⟨g2, i2, e2, r2⟩ := nilbs_ok nb _ _ _ _ _ vs h i1 hr'
      exact ⟨g2, i2, e1.trans e2, r2⟩
    · exact nilbs_ok nb _ _ _ _ _ vs h hi hr

theorem nilbs_keep : ∀ (nb : List (Nat × Nat)) (cs cs' : List D) (σ σ' : Stack), nilbs nb cs σ = some (cs', σ') → σ'.length = σ.length ∧ cs'.length = cs.length ∧ ∀ l i b, blk? σ l i = some b → blk? σ' l i = some b
  | [], cs, cs', σ, σ', h => by
    simp only [nilbs, Option.some.injEq, Prod.mk.injEq] at h; obtain ⟨rfl, rfl⟩ := h
    exact ⟨rfl, rfl, fun _ _ _ h => h⟩
  | (p, wd) :: nb, cs, cs', σ, σ', h => by
    simp only [nilbs] at h
    split at h
    · simp only [Option.bind_eq_bind, Option.bind_eq_some_iff] at h
      obtain ⟨⟨l, i, σ1⟩, hn, h⟩ := h
      obtain ⟨h1, h2, h3⟩ := nilbs_keep nb _ _ _ _ h
      obtain ⟨k1, k2, k3, k4, _⟩ := newBlk_spec hn
      refine ⟨h1.trans k4, by simpa using h2, fun l' i' b hb => h3 l' i' b ?_⟩
      rw [k3 l' i' (fun hc => by obtain ⟨rfl, rfl⟩ := hc; rw [k1] at hb; cases hb)]; exact hb
    · exact nilbs_keep nb _ _ _ _ h

theorem frz_keep (l : Nat) : ∀ (n : Nat) (d : D) (σ : Stack), (frz l n d σ).2.length = σ.length ∧ ∀ l' i', l' ≤ l → blk? (frz l n d σ).2 l' i' = blk? σ l' i'
  | 0, d, σ => ⟨rfl, fun _ _ _ => rfl⟩
  | n + 1, d, σ => by
    have ih : ∀ (ds : List D) (σ : Stack), (frz.frzL (frz l n) ds σ).2.length = σ.length ∧ ∀ l' i', l' ≤ l → blk? (frz.frzL (frz l n) ds σ).2 l' i' = blk? σ l' i' := by
      intro ds
      induction ds with
      | nil => intro σ; exact ⟨rfl, fun _ _ _ => rfl⟩
      | cons d ds ihd =>
        intro σ
        obtain ⟨a1, a2⟩ := frz_keep l n d σ
        obtain ⟨b1, b2⟩ := ihd (frz l n d σ).2
        exact ⟨b1.trans a1, fun l' i' h => (b2 l' i' h).trans (a2 l' i' h)⟩
    simp only [frz]
    split
    · exact ⟨rfl, fun _ _ _ => rfl⟩
    split
    · exact ih _ σ
    · exact ih _ σ
    · exact ih _ σ
    · exact ih _ σ
    · exact ih _ σ
    · rename_i f a b _
      obtain ⟨a1, a2⟩ := ih a σ
      obtain ⟨b1, b2⟩ := ih b (frz.frzL (frz l n) a σ).2
      exact ⟨b1.trans a1, fun l' i' h => (b2 l' i' h).trans (a2 l' i' h)⟩
    · split <;> exact ⟨rfl, fun _ _ _ => rfl⟩
    · split <;> exact ⟨rfl, fun _ _ _ => rfl⟩
    · split
      · exact ⟨rfl, fun _ _ _ => rfl⟩
      · rename_i hgt
        split
        · rename_i cs _
          obtain ⟨a1, a2⟩ := ih ((cs.drop _).take _) (setBlk σ _ _ .dead)
          refine ⟨a1.trans setBlk_length, fun l' i' h => (a2 l' i' h).trans (blk?_setBlk_other fun hc => ?_)⟩
          omega
        · exact ⟨rfl, fun _ _ _ => rfl⟩
    · exact ⟨rfl, fun _ _ _ => rfl⟩

theorem frzL_keep (l n : Nat) (ds : List D) (σ : Stack) : (frz.frzL (frz l n) ds σ).2.length = σ.length ∧ (frz.frzL (frz l n) ds σ).1.length = ds.length ∧ ∀ l' i', l' ≤ l → blk? (frz.frzL (frz l n) ds σ).2 l' i' = blk? σ l' i' := by
  induction ds generalizing σ with
  | nil => exact ⟨rfl, rfl, fun _ _ _ => rfl⟩
  | cons d ds ihd =>
    obtain ⟨a1, a2⟩ := frz_keep l n d σ
    obtain ⟨b1, b3, b2⟩ := ihd (frz l n d σ).2
    exact ⟨b1.trans a1, by simp [frz.frzL, b3], fun l' i' h => (b2 l' i' h).trans (a2 l' i' h)⟩
end nilbs

theorem row_write {c c' : Array Value} {bo off : Nat} {vs ps : List Value} (hvs : ∀ (j : Nat) x, vs[j]? = some x → c[bo + j]? = some x ∧ x.oneCell' = true) (h1 : ∀ x ∈ ps, x.oneCell' = true)
    (hle : off + ps.length ≤ vs.length) (hc' : ∀ j, c'[j]? = if bo + off ≤ j ∧ j < bo + off + ps.length then ps[j - (bo + off)]? else c[j]?) :
    ∀ (j : Nat) x, (vs.take off ++ ps ++ vs.drop (off + ps.length))[j]? = some x → c'[bo + j]? = some x ∧ x.oneCell' = true := by
  intro j x hj
  rw [hc']
  have hlt : (vs.take off).length = off := by simp; omega
  rw [List.append_assoc, List.getElem?_append] at hj
  split at hj
  · rename_i h
    rw [List.getElem?_take] at hj
    split at hj
    · rw [if_neg (by omega)]; exact hvs j x hj
    · cases hj
  · rename_i h
    rw [hlt] at hj h
    rw [List.getElem?_append] at hj
    split at hj
    · rename_i h2
      rw [if_pos (by omega), show bo + j - (bo + off) = j - off from by omega]
      exact ⟨hj, h1 x (List.mem_of_getElem? hj)⟩
    · rename_i h2
      rw [if_neg (by omega)]
      rw [List.getElem?_drop] at hj
      have := hvs _ x hj
      rwa [show off + ps.length + (j - off - ps.length) = j from by omega] at this

section ops
variable {P : Program} {CR : CRel} {base fb : Nat} {V : List Nat} {g : G} {σ σ' : Stack} {w : World} {B : Nat → Nat} {e : Env} {tmps : Array Value} {df : List Deferred}
  {d : D}

theorem run_alloc {el : TypeId} {i : TypeInfo} {z : Value} (hi : P.info? el = some i) (hz : i.zero = some z) : (Instr.alloc el true (.tuple #[])).run P w = .ok (.pointer (some ⟨w.heap.size, 0, none⟩)) (w.alloc (.cells z.cells el)) := by
  simp [Instr.alloc, run_zeroValue hi hz, newVar, newRow]

theorem s_alc (hi : Inv CR base g σ w) {el : TypeId} {z : List D} {nb : List (Nat × Nat)} {ρ : Operand → Value} (hz : zeroC P el = some z)
    (h : sop e σ (.alc nb z) = some (d, σ')) (o : Oper) (ho : o.op = .alloc el) : Does P CR base g w B e ρ o d σ' := by
  obtain ⟨i0, v, hinfo, hzero, hrz, h1⟩ := zeroC_rel g hz
  simp only [sop, Option.bind_eq_bind, Option.bind_eq_some_iff] at h
  obtain ⟨⟨cs', σ1⟩, hnb, ⟨l, i, σ2⟩, hn, h⟩ := h
  cases h
  obtain ⟨g1, i1, e1, r1⟩ := nilbs_ok nb _ _ _ _ g _ hnb hi hrz
  obtain ⟨i2, e2⟩ := i1.newCells hn v.cells.toList v.cells el r1 (by simp) (fun j y hy => ⟨by simpa using hy, h1 y (List.mem_of_getElem? hy)⟩)
  exact .val (.pointer (some ⟨w.heap.size, 0, none⟩)) (by simp [execOp, ho, run_alloc hinfo hzero]) (e1.trans e2) i2 (.ref l i 0 0 _ _ _ G.setLoc_same (Nat.le_refl _) (fun blk bo sz hh => by cases hh; exact ⟨rfl, rfl⟩) (by simp))

theorem s_bxn (hf : Fr fb V g w B e tmps) (hi : Inv CR base g σ w) {x : Operand} {X : Opd} {t : TypeId} {nb : List (Nat × Nat)} (hx : opdC x = some X) (h : sop e σ (.bxn nb X) = some (d, σ')) (o : Oper) (ho : o.op = .box t x) :
    Does P CR base g w B e (Act.mk tmps df).eval o d σ' := by
  simp only [sop, Option.bind_eq_bind, Option.bind_eq_some_iff] at h
  obtain ⟨cs, hcs, ⟨cs', σ1⟩, hnb, ⟨l, i, σ2⟩, hn, h⟩ := h
  cases h
  obtain ⟨hr, h1⟩ := (hf.opd (df := df) hx).cells hcs
  obtain ⟨g1, i1, e1, r1⟩ := nilbs_ok nb _ _ _ _ g _ hnb hi hr
  obtain ⟨i2, e2⟩ := i1.newCells hn ((Act.mk tmps df).eval x).cells.toList ((Act.mk tmps df).eval x).cells t r1 (by simp) (fun j y hy => ⟨by simpa using hy, h1 y (List.mem_of_getElem? hy)⟩)
  exact .val (.pointer (some ⟨w.heap.size, 0, none⟩)) (by simp [execOp, ho, Instr.box, newVar, newRow]) (e1.trans e2) i2 (.ref l i 0 0 _ _ _ G.setLoc_same (Nat.le_refl _) (fun blk bo sz hh => by cases hh; exact ⟨rfl, rfl⟩) (by simp))

theorem s_st (hf : Fr fb V g w B e tmps) (hi : Inv CR base g σ w) {x y : Operand} {X Y : Opd} {t : TypeId} {nb : List (Nat × Nat)} {sz : Nat} (hx : opdC x = some X) (hy : opdC y = some Y) (hsz : sizeC P t = some sz)
    (h : sop e σ (.st nb sz X Y) = some (d, σ')) (o : Oper) (ho : o.op = .store t x y) : Does P CR base g w B e (Act.mk tmps df).eval o d σ' := by
  simp only [sop] at h
  split at h
  case h_2 => cases h
  rename_i l i v off hX
  split at h
  case h_2 => cases h
  rename_i cs hcs
  split at h
  case h_2 => cases h
  rename_i p hcells
  split at h
  case isFalse => cases h
  rename_i hc
  obtain ⟨hplen, hle⟩ := hc
  obtain ⟨hrp, h1p⟩ := (hf.opd (df := df) hy).cells hcells
  have hrx := hf.opd (df := df) hx
  rw [hX] at hrx
  generalize hcv : (Act.mk tmps df).eval x = cv at hrx
  cases hrx with
  | ref _ _ _ _ b o1 L k1 k2 k3 k4 =>
    unfold cells? at hcs
    split at hcs
    case h_2 => cases hcs
    rename_i v' cs' hblk
    split at hcs
    case isFalse => cases hcs
    rename_i hv; subst hv; cases hcs
    -- the stored cells, made ready
    obtain ⟨p', σ1, g1, i1, e1, r1, hp'len, hblk1, rfl, rfl⟩ : ∃ p' σ1 g1, Inv CR base g1 σ1 w ∧ Ev g w g1 w ∧ RelL g1 p' ((Act.mk tmps df).eval y).cells.toList ∧ p'.length = p.length ∧ blk? σ1 l i = some (.cells v' cs) ∧
        σ' = setBlk σ1 l i (.cells v' (cs.take off ++ p' ++ cs.drop (off + sz))) ∧ d = .undef := by
      split at h
      · split at h
        · rename_i p' σ1 hnb
          cases h
          obtain ⟨g1, i1, e1, r1⟩ := nilbs_ok nb _ _ _ _ g _ hnb hi hrp
          obtain ⟨_, k6, k7⟩ := nilbs_keep nb _ _ _ _ hnb
          exact ⟨p', σ1, g1, i1, e1, r1, k6, k7 _ _ _ hblk, rfl, rfl⟩
        · cases h
      · cases h
        obtain ⟨g1, i1, e1, r1⟩ := frzL_ok (CR := CR) (base := base) (frz_ok l deep) p σ g w _ hi hrp
        obtain ⟨_, k6, k7⟩ := frzL_keep l deep p σ
        exact ⟨_, _, g1, i1, e1, r1, k6, (k7 l i (Nat.le_refl _)).trans hblk, rfl, rfl⟩
    obtain ⟨L1, hL1, hle1⟩ := e1.le.loc l i L k1
    obtain ⟨b1, hb1, hrel⟩ := i1.dom l i L1 hL1
    rw [hblk1] at hb1; cases hb1
    cases L1 with
    | dead => exact hrel.elim
    | lp z => exact hrel.elim
    | mp z => exact (Loc.okv_le k2 hle1).elim
    | it z => exact (Loc.okv_le k2 hle1).elim
    | ob z _ => exact (Loc.okv_le k2 hle1).elim
    | virt v2 =>
      obtain ⟨rfl, _⟩ := hrel
      exact absurd (Loc.back_virt k2 hle1 rfl) k4
    | «at» blk bo v2 bsz =>
      obtain ⟨rfl, ca, el, hheap, hcsz, hlen, vs, hr, hvs⟩ := hrel
      have hLeq := Loc.back k2 hle1 rfl
      obtain ⟨rfl, rfl⟩ := k3 blk bo bsz hLeq
      have hvl := hr.length
      have hpl : ((Act.mk tmps df).eval y).cells.toList.length = sz := by rw [← r1.length, hp'len]; exact hplen
      obtain ⟨w', c', hrun, hb', hs', hc', hother, hsize, ho1, ho2, ho3⟩ := run_storeVar (P := P) (t := t) (w := w) (b := b) (o := bo + off) (v := (Act.mk tmps df).eval y) hsz (by simpa using hpl) h1p hheap (by omega)
      have hle2 : g1.le (g1.setLoc l i (.at b bo v' bsz)) := G.le_setLoc fun L0 e0 => by rw [hL1] at e0; cases e0; exact Loc.le_refl _
      obtain ⟨i2, e2⟩ := i1.setCells (w' := w') (L := .at b bo v' bsz) (v := v') (ds := cs.take off ++ p' ++ cs.drop (off + sz)) hL1 hblk1 (Loc.le_refl _)
        ⟨rfl, c', el, hb', by rw [hs', hcsz], by simp; omega, vs.take off ++ ((Act.mk tmps df).eval y).cells.toList ++ vs.drop (off + sz),
          (((hr.take off).append r1).append (hr.drop _)).mono hle2, by
            have := row_write (c := ca) (c' := c') (bo := bo) (off := off) (vs := vs) (ps := ((Act.mk tmps df).eval y).cells.toList) hvs h1p (by omega) (by rw [hpl]; exact hc')
            rw [hpl] at this; exact this⟩
        (fun b' hb' hne => hother b' (fun hh => hne (by rw [hh]; rfl))) ho1 ho2 ho3 (by omega) (fun b' hb' => .inl hb')
      refine ⟨.skip, Go.undef, _, w', ?_, rfl, e1.trans e2, i2, .undef _⟩
      simp [execOp, ho, Instr.storeAt, hcv, Instr.sureAddr, hrun]

end ops
end Go.Abs

/-
  append; rows that are the same.
-/
set_option linter.unusedVariables false
set_option linter.unusedSimpArgs false
namespace Go.Abs
open Go

theorem growBy_le (n : Nat) : ∀ (r c : Nat), c ≤ 2 * n + 192 → Builtin.growBy n r c ≤ 2 * n + 192
  | 0, c, h => h
  | r + 1, c, h => by
    simp only [Builtin.growBy]
    split
    · exact h
    · exact growBy_le n r _ (by omega)

theorem nextslicecap_le {need cap : Nat} (h : cap < need) : Builtin.nextslicecap need cap ≤ 2 * need + 192 := by
  unfold Builtin.nextslicecap
  split
  · omega
  · split
    · omega
    · exact growBy_le need 4 cap (by omega)

section ops
variable {P : Program} {CR : CRel} {base fb : Nat} {V : List Nat} {g : G} {σ σ' : Stack} {w : World} {B : Nat → Nat} {e : Env} {tmps : Array Value} {df : List Deferred}
  {d : D}

theorem run_firstCells {wd n : Nat} {a : Option Addr} {cap : Nat} {vs : List Value} (hnil : a = none → n = 0) (hlen : vs.length = n * wd)
    (hrd : ∀ x, a = some x → n ≠ 0 → x.spot = none ∧ Rd w x.block x.off vs) (w' : World) (hw : w'.heap = w.heap) : (Builtin.firstCells wd n (.slice a n cap)).run P w' = .ok vs.toArray w' := by
  cases a with
  | none =>
    obtain rfl := hnil rfl
    simp only [Nat.zero_mul, List.length_eq_zero_iff] at hlen
    subst hlen
    simp [Builtin.firstCells]
  | some x =>
    simp only [Builtin.firstCells]
    by_cases hn : n = 0
    · subst hn
      simp only [Nat.zero_mul, List.length_eq_zero_iff] at hlen
      subst hlen
      simp [loadCells, loadCellsFrom]
    · obtain ⟨h1, h2⟩ := hrd x rfl hn
      obtain ⟨b, o, sp⟩ := x
      simp only at h1; subst h1
      rw [← hlen]
      exact run_loadCells_list w' ⟨b, o, none⟩ vs (fun j v hj => by
        rw [add_eq]
        have := h2 j v hj
        simp only [World.cell?, hw] at this ⊢
        exact this)

theorem elems_rel (hi : Inv CR base g σ w) {wd : Nat} {dx : D} {c : Value} {m : Nat} {xs : List D} (hr : RelV g dx c) (he : elems σ wd dx = some (m, xs)) (hns : ∀ s, dx ≠ .str s) :
    ∃ (a : Option Addr) (cap : Nat) (vs : List Value), c = .slice a m cap ∧ RelL g xs vs ∧ (∀ x ∈ vs, x.oneCell' = true) ∧ vs.length = m * wd ∧ (a = none → m = 0) ∧ (∀ x, a = some x → m ≠ 0 → x.spot = none ∧ Rd w x.block x.off vs) := by
  unfold elems at he
  split at he
  · cases he; cases hr
    exact ⟨none, 0, [], rfl, .nil, by simp, by simp, fun _ => rfl, fun _ hh => by cases hh⟩
  · exact absurd rfl (hns _)
  · rename_i n cs
    split at he
    case isFalse => cases he
    rename_i hlen
    cases he
    cases hr with
    | lstn => exact ⟨none, 0, [], rfl, .nil, by simp, by simp, fun _ => rfl, fun _ hh => by cases hh⟩
    | lst _ _ a cap vs hn h1 h2 h3 =>
      refine ⟨some a, cap, vs, rfl, h3, fun x hx => ?_, by rw [← h3.length, hlen], fun hh => (by cases hh), fun x hx hne => ?_⟩
      · obtain ⟨j, hj⟩ := List.getElem?_of_mem hx
        exact (hi.imm _ _ _ (h1 j x hj)).2
      · cases hx
        exact ⟨h2 hne, fun j y hy => (hi.imm _ _ _ (h1 j y hy)).1⟩
  · rename_i l i v off n w'
    split at he
    case isFalse => cases he
    rename_i hw'; subst hw'
    split at he
    case h_2 => cases he
    rename_i cs hcs
    split at he
    case isFalse => cases he
    rename_i hle
    cases he
    cases hr with
    | sl _ _ _ _ _ _ a cap L k1 k2 k3 k4 k5 k6 k7 =>
      unfold cells? at hcs
      split at hcs
      case h_2 => cases hcs
      rename_i v' cs' hblk
      split at hcs
      case isFalse => cases hcs
      rename_i hv; subst hv; cases hcs
      obtain ⟨b0, hb0, hrel⟩ := hi.dom _ _ _ k1
      rw [hblk] at hb0; cases hb0
      cases L with
      | dead => exact hrel.elim
      | lp z => exact hrel.elim
      | mp z => exact k2.elim
      | it z => exact k2.elim
      | ob z _ => exact k2.elim
      | virt v2 =>
        obtain ⟨rfl, rfl⟩ := hrel
        obtain rfl := k7 rfl
        obtain rfl := k4 rfl
        obtain rfl : m = 0 := by omega
        exact ⟨none, 0, [], rfl, by simpa using RelL.nil, by simp, by simp, fun _ => rfl, fun _ hh => by cases hh⟩
      | «at» blk bo v2 bsz =>
        obtain ⟨rfl, ca, el, hheap, hcsz, hlen, vs, hr, hvs⟩ := hrel
        refine ⟨a, cap, (vs.drop off).take (m * w'), rfl, (hr.drop off).take _, fun x hx => ?_, ?_, fun hh => ?_, fun x hx hne => ?_⟩
        · obtain ⟨j, hj⟩ := List.getElem?_of_mem (List.mem_of_mem_drop (List.mem_of_mem_take hx))
          exact (hvs j x hj).2
        · have := hr.length
          simp; omega
        · have := k4 hh; omega
        · rcases k6 blk bo bsz rfl with ⟨rfl, k8⟩ | k8
          · cases hx
            refine ⟨rfl, Rd.take (Rd.drop (fun j y hy => ?_) off) _⟩
            simp only [World.cell?, hheap]
            simpa using (hvs j y hy).1
          · omega
  · cases he

theorem strCells_rel (g : G) : ∀ (s : List UInt8), RelL g (strCells s) (s.map fun b => .int .u8 b.toNat)
  | [] => .nil
  | b :: s => .cons _ _ _ _ (.int _ _) (strCells_rel g s)
theorem elems_src (hi : Inv CR base g σ w) {wd : Nat} {dx : D} {c : Value} {m : Nat} {xs : List D} (hr : RelV g dx c) (he : elems σ wd dx = some (m, xs)) :
    ∃ vs : List Value, RelL g xs vs ∧ (∀ x ∈ vs, x.oneCell' = true) ∧ vs.length = m * wd ∧ (∀ w', (Builtin.lenOf c).run P w' = .ok m w') ∧ (∀ w', w'.heap = w.heap → (Builtin.firstCells wd m c).run P w' = .ok vs.toArray w') := by
  by_cases hs : ∃ s, dx = .str s
  · obtain ⟨s, rfl⟩ := hs
    simp only [elems] at he
    split at he
    case isFalse => cases he
    rename_i hw; subst hw
    cases he
    generalize hd : D.str s = dd at hr
    cases hr <;> cases hd
    rename_i b
    refine ⟨b.data.toList.map fun u => .int .u8 u.toNat, strCells_rel g _, ?_, by simp, fun w' => ?_, fun w' _ => ?_⟩
    · intro x hx
      obtain ⟨u, _, rfl⟩ := List.mem_map.1 hx
      rfl
    · have : b.data.toList.length = b.size := by cases b; rfl
      simp [Builtin.lenOf, this]
    · have : b.extract 0 b.data.toList.length = b := by cases b; simp [ByteArray.extract, ByteArray.copySlice, ByteArray.size]
      simp only [Builtin.firstCells, this, Sem.run_pure]
      congr 1
      simp [← Array.toList_inj]
  · obtain ⟨a, cap, vs, hc, h1, h2, h3, h4, h5⟩ := elems_rel hi hr he (fun s hh => hs ⟨s, hh⟩)
    exact ⟨vs, h1, h2, h3, fun w' => by rw [hc]; simp [Builtin.lenOf], fun w' hw' => by rw [hc]; exact run_firstCells h4 h3 h5 w' hw'⟩

theorem run_append_grow {el t u : TypeId} {wd bytes n m cap : Nat} {a : Option Addr} {xv : Value} {z : List D} {old new : List Value} (ht : P.underlying t = some (.slice el)) (hu : P.underlying u = some .string ∨ ∃ e2, P.underlying u = some (.slice e2))
    (hw : sizeC P el = some wd) (hb : (P.info? el).map (·.bytes) = some bytes) (hz : zeroC P el = some z) (hzl : z.length = wd) (hbpos : 0 < bytes) (hbl : bytes ≤ 2 ^ 20) (hroom : (n + m) * bytes ≤ room)
    (hgrow : cap < n + m) (hold : ∀ w', w'.heap = w.heap → (Builtin.firstCells wd n (.slice a n cap)).run P w' = .ok old.toArray w')
    (hlenx : (Builtin.lenOf xv).run P w = .ok m w) (hnew : ∀ w', w'.heap = w.heap → (Builtin.firstCells wd m xv).run P w' = .ok new.toArray w') (g : G) :
    ∃ (newCap : Nat) (rest : List Value), (n + m ≤ newCap ∧ newCap < 9223372036854775808) ∧ rest.length = (newCap - (n + m)) * wd ∧
      (Builtin.append_ #[t, u] 0 #[.slice a n cap, xv]).run P w = .ok (.slice (some ⟨w.heap.size, 0, none⟩) (n + m) newCap) (w.drew.alloc (.cells (old ++ new ++ rest).toArray el)) := by
  obtain ⟨i0, v, hinfo, hzero, hrz, h1⟩ := zeroC_rel g hz
  have hbytes : i0.bytes = bytes := by rw [hinfo] at hb; simpa using hb
  have hvs : v.cells.size = wd := by have := hrz.length; simp at this; omega
  have hcapq : Builtin.nextslicecap (n + m) cap * bytes ≤ 2 ^ 48 := by
    have h2 := nextslicecap_le hgrow
    have h3 : Builtin.nextslicecap (n + m) cap * bytes ≤ (2 * (n + m) + 192) * bytes := Nat.mul_le_mul_right _ h2
    have h4 : (2 * (n + m) + 192) * bytes = 2 * ((n + m) * bytes) + 192 * bytes := by rw [Nat.add_mul, Nat.mul_assoc]
    simp only [room] at hroom
    omega
  refine ⟨(Question.appendCap (n + m) cap el).cut (w.tape w.drawn (.appendCap (n + m) cap el)),
    (Builtin.zeroCells v.cells ((Question.appendCap (n + m) cap el).cut (w.tape w.drawn (.appendCap (n + m) cap el)) - (n + m))).toList, ?_, ?_, ?_⟩
  · have hlt : n + m < 9223372036854775808 := by
      have h5 : (n + m) * 1 ≤ (n + m) * bytes := Nat.mul_le_mul_left _ hbpos
      simp only [room] at hroom
      omega
    simp only [Question.cut]
    have := Nat.mod_lt (w.tape w.drawn (.appendCap (n + m) cap el)) (y := 2 ^ 63 - (n + m)) (by omega)
    omega
  · simp [Builtin.zeroCells, hvs]
  · have hq : (Question.appendCap (n + m) cap el).forced = false := rfl
    rcases hu with hu | ⟨e2, hu⟩
    all_goals
      simp only [Builtin.append_, List.getElem?_toArray, List.getElem?_cons_zero, List.getElem?_cons_succ, Sem.run_bind, run_under ht, run_under hu, Result.andThen_ok, run_sizeOf hw, Sem.run_pure, Sem.run_ite, Bool.false_eq_true,
        if_false, Bool.not_false, if_true, hlenx]
      rw [if_neg (by omega)]
      simp only [false_or, run_typeInfo hinfo, Result.andThen_ok, hbytes]
      rw [if_neg (by omega), if_neg (by omega)]
      simp only [run_choose, hq, Bool.false_eq_true, if_false, Result.andThen_ok, run_askRoom, World.drew_eq]
      rw [hold w.drew rfl]
      simp only [Result.andThen_ok]
      rw [hnew w.drew rfl]
      simp only [Result.andThen_ok, run_zeroValue hinfo hzero, newRow, Sem.run_bind, run_newObj, Sem.run_pure]
      rw [show (old ++ new ++ (Builtin.zeroCells v.cells ((Question.appendCap (n + m) cap el).cut (w.tape w.drawn (.appendCap (n + m) cap el)) - (n + m))).toList).toArray =
        old.toArray ++ new.toArray ++ Builtin.zeroCells v.cells ((Question.appendCap (n + m) cap el).cut (w.tape w.drawn (.appendCap (n + m) cap el)) - (n + m)) from by simp]
      rfl


theorem run_appendOp {ρ : Operand → Value} {x y : Operand} {args : Array Operand} {ts : Array TypeId} {t u : TypeId} (ha : args.toList = [x, y]) (hts : ts.toList = [t, u]) (o : Oper)
    (ho : o.op = .call { callee := .builtin .append, args, argTypes := ts }) (r : Result Value) (hr : (Builtin.append_ #[t, u] 0 #[ρ x, ρ y]).run P w = r) :
    (execOp ρ o).run P w = r.andThen fun v w' => .ok (.value v) w' := by
  obtain rfl : args = #[x, y] := by rw [← Array.toList_inj, ha]
  obtain rfl : ts = #[t, u] := by rw [← Array.toList_inj, hts]
  have : Builtin.append_ #[t, u] o.type #[ρ x, ρ y] = Builtin.append_ #[t, u] 0 #[ρ x, ρ y] := rfl
  simp only [execOp, ho, resolve, Sem.run_bind, Sem.run_pure, Result.andThen_ok, invoke, builtin]
  simp [this, hr]

theorem s_cpi (hf : Fr fb V g w B e tmps) (hi : Inv CR base g σ w) {x y : Operand} {Y : Opd} {args : Array Operand} {ts : Array TypeId} {t u el : TypeId} {wd bytes : Nat} {z : List D} (hx : x = .const (.slice none 0 0)) (hy : opdC y = some Y)
    (ha : args.toList = [x, y]) (hts : ts.toList = [t, u]) (ht : P.underlying t = some (.slice el)) (hu : P.underlying u = some .string ∨ ∃ e2, P.underlying u = some (.slice e2))
    (hw : sizeC P el = some wd) (hb : (P.info? el).map (·.bytes) = some bytes) (hz : zeroC P el = some z) (hzl : z.length = wd) (hbpos : 0 < bytes) (hbl : bytes ≤ 2 ^ 20)
    (h : sop e σ (.cpi wd bytes Y) = some (d, σ')) (o : Oper) (ho : o.op = .call { callee := .builtin .append, args, argTypes := ts }) : Does P CR base g w B e (Act.mk tmps df).eval o d σ' := by
  simp only [sop, Option.bind_eq_bind, Option.bind_eq_some_iff] at h
  obtain ⟨⟨m, xs⟩, he, h⟩ := h
  dsimp only at h
  split at h
  case isFalse => cases h
  rename_i hroom
  cases h
  obtain ⟨vs, hr, h1, hlen, hln, hfc⟩ := elems_src (P := P) hi (hf.opd (df := df) hy) he
  have hx' : (Act.mk tmps df).eval x = .slice none 0 0 := by subst hx; rfl
  by_cases hm : m = 0
  · subst hm
    have hvs : vs = [] := by simpa using hlen
    subst hvs
    cases hr
    have hrun : (Builtin.append_ #[t, u] 0 #[(Act.mk tmps df).eval x, (Act.mk tmps df).eval y]).run P w = .ok (.slice none 0 0) w := by
      rw [hx']
      have hf0 := hfc w rfl
      have hl0 := hln w
      rcases hu with hu | ⟨e2, hu⟩ <;> simp [Builtin.append_, run_under ht, run_under hu, run_sizeOf hw, hl0, hf0]
    have := run_appendOp ha hts o ho _ hrun
    exact .pure hi (by simpa using this) (RelT.of .lstn)
  · have hroom' : (0 + m) * bytes ≤ room := by simpa using hroom
    obtain ⟨newCap, rest, k1, k2, k3⟩ := run_append_grow (P := P) (w := w) (a := none) (cap := 0) (n := 0) (old := []) (new := vs) (xv := (Act.mk tmps df).eval y) ht hu hw hb hz hzl hbpos hbl hroom' (by omega)
      (fun w' hw' => by simp [Builtin.firstCells]) (hln _) hfc g
    rw [← hx'] at k3
    have hrun := run_appendOp ha hts o ho _ k3
    obtain ⟨i1, e1, r1⟩ := (hi.heap (w1 := w.drew) rfl).newImm vs (([] : List Value) ++ vs ++ rest).toArray el (fun j y hy => ⟨by
      rw [List.getElem?_toArray, List.nil_append, List.getElem?_append_left (List.getElem?_eq_some_iff.1 hy).1]; exact hy, h1 y (List.mem_of_getElem? hy)⟩)
    refine .val (.slice (some ⟨w.heap.size, 0, none⟩) (0 + m) newCap) (by simpa using hrun) ((Ev.heap g (w := w) (w1 := w.drew) rfl rfl rfl rfl).trans e1) i1 ?_
    rw [Nat.zero_add]
    exact .lst _ _ _ _ _ (by omega) r1 (fun _ => rfl) (hr.mono e1.le)

theorem s_bse (hf : Fr fb V g w B e tmps) (hi : Inv CR base g σ w) {t el : TypeId} {wd : Nat} {z : List D} {ps : Array (Nat × Operand)} {parts : List (Nat × Nat × Opd)}
    (ht : P.underlying t = some (.slice el)) (hw : sizeC P el = some wd) (hz : zeroC P el = some z) (hpos : 0 < wd) (hzl : z.length = wd) (hbig : 0 * wd ≤ 2 ^ 24)
    (hp : partsC (fun i => some (i * wd, wd)) ps.toList = some parts) (hpe : ps.toList = []) (h : sop e σ .bse = some (d, σ')) (o : Oper) (ho : o.op = .buildSlice t 0 ps) :
    Does P CR base g w B e (Act.mk tmps df).eval o d σ' := by
  simp only [sop, Option.some.injEq, Prod.mk.injEq] at h
  obtain ⟨rfl, rfl⟩ := h
  have hps : parts = [] := by rw [hpe] at hp; simpa [partsC] using hp.symm
  subst hps
  obtain ⟨vs, hrun, hr, h1⟩ := run_bsl (P := P) (w := w) (df := df) (g := g) hf ht hw hz hpos hzl hbig hp (cs := (List.range 0).flatMap fun _ => z) rfl o ho
  obtain ⟨i1, i2, i3⟩ := hi.newImm vs.toList vs el (fun j y hy => ⟨by simpa using hy, h1 y (List.mem_of_getElem? hy)⟩)
  exact .val _ hrun i2 i1 ⟨_, rfl⟩

theorem s_ape (hf : Fr fb V g w B e tmps) (hi : Inv CR base g σ w) {x y : Operand} {v : Nat} {Y : Opd} {args : Array Operand} {ts : Array TypeId} {t u el : TypeId} {wd bytes : Nat} {z : List D} (hx : x = .tmp v) (hy : opdC y = some Y)
    (ha : args.toList = [x, y]) (hts : ts.toList = [t, u]) (ht : P.underlying t = some (.slice el)) (hu : P.underlying u = some .string ∨ ∃ e2, P.underlying u = some (.slice e2))
    (hw : sizeC P el = some wd) (hb : (P.info? el).map (·.bytes) = some bytes) (hz : zeroC P el = some z) (hzl : z.length = wd) (hbpos : 0 < bytes) (hbl : bytes ≤ 2 ^ 20)
    (h : sop e σ (.ape wd bytes v Y) = some (d, σ')) (o : Oper) (ho : o.op = .call { callee := .builtin .append, args, argTypes := ts }) : Does P CR base g w B e (Act.mk tmps df).eval o d σ' := by
  simp only [sop] at h
  split at h
  case h_2 => cases h
  rename_i hev
  simp only [Option.bind_eq_some_iff] at h
  obtain ⟨⟨m, xs⟩, he, h⟩ := h
  dsimp only at h
  split at h
  case isFalse => cases h
  rename_i hroom
  cases h
  obtain ⟨vs, hr, h1, hlen, hln, hfc⟩ := elems_src (P := P) hi (hf.opd (df := df) hy) he
  have hrel := hf.rel v
  rw [hev] at hrel
  obtain ⟨a0, ha0⟩ := hrel
  have hx' : (Act.mk tmps df).eval x = .slice a0 0 0 := by subst hx; exact ha0
  by_cases hm : m = 0
  · subst hm
    have hvs : vs = [] := by simpa using hlen
    subst hvs
    cases hr
    have hrun : (Builtin.append_ #[t, u] 0 #[(Act.mk tmps df).eval x, (Act.mk tmps df).eval y]).run P w = .ok (.slice a0 0 0) w := by
      rw [hx']
      have hf0 := hfc w rfl
      have hl0 := hln w
      rcases hu with hu | ⟨e2, hu⟩ <;> simp [Builtin.append_, run_under ht, run_under hu, run_sizeOf hw, hl0, hf0] <;> cases a0 <;> simp [storeCells]
    have := run_appendOp ha hts o ho _ hrun
    refine .pure hi (by simpa using this) (RelT.of ?_)
    cases a0 with
    | none => exact .lstn
    | some a0 => exact .lst 0 [] a0 0 [] (Nat.le_refl _) (fun j v hv => by simp at hv) (fun hh => absurd rfl hh) .nil
  · have hroom' : (0 + m) * bytes ≤ room := by simpa using hroom
    obtain ⟨newCap, rest, k1, k2, k3⟩ := run_append_grow (P := P) (w := w) (a := a0) (cap := 0) (n := 0) (old := []) (new := vs) (xv := (Act.mk tmps df).eval y) ht hu hw hb hz hzl hbpos hbl hroom' (by omega)
      (fun w' hw' => run_firstCells (fun _ => rfl) (by simp) (fun x hx hne => absurd rfl hne) w' hw') (hln _) hfc g
    rw [← hx'] at k3
    have hrun := run_appendOp ha hts o ho _ k3
    obtain ⟨i1, e1, r1⟩ := (hi.heap (w1 := w.drew) rfl).newImm vs (([] : List Value) ++ vs ++ rest).toArray el (fun j y hy => ⟨by
      rw [List.getElem?_toArray, List.nil_append, List.getElem?_append_left (List.getElem?_eq_some_iff.1 hy).1]; exact hy, h1 y (List.mem_of_getElem? hy)⟩)
    refine .val (.slice (some ⟨w.heap.size, 0, none⟩) (0 + m) newCap) (by simpa using hrun) ((Ev.heap g (w := w) (w1 := w.drew) rfl rfl rfl rfl).trans e1) i1 ?_
    rw [Nat.zero_add]
    exact .lst _ _ _ _ _ (by omega) r1 (fun _ => rfl) (hr.mono e1.le)

theorem s_app (hf : Fr fb V g w B e tmps) (hi : Inv CR base g σ w) {x y : Operand} {X Y : Opd} {args : Array Operand} {ts : Array TypeId} {t u el : TypeId} {wd bytes : Nat} {z : List D} (hx : opdC x = some X) (hy : opdC y = some Y)
    (ha : args.toList = [x, y]) (hts : ts.toList = [t, u]) (ht : P.underlying t = some (.slice el)) (hu : P.underlying u = some .string ∨ ∃ e2, P.underlying u = some (.slice e2))
    (hw : sizeC P el = some wd) (hb : (P.info? el).map (·.bytes) = some bytes) (hz : zeroC P el = some z) (hzl : z.length = wd) (hbpos : 0 < bytes) (hbl : bytes ≤ 2 ^ 20)
    (h : sop e σ (.app wd bytes X Y) = some (d, σ')) (o : Oper) (ho : o.op = .call { callee := .builtin .append, args, argTypes := ts }) : Does P CR base g w B e (Act.mk tmps df).eval o d σ' := by
  simp only [sop, Option.bind_eq_bind, Option.bind_eq_some_iff] at h
  obtain ⟨⟨m, xs⟩, he, h⟩ := h
  dsimp only at h
  obtain ⟨vs, hr, h1, hlen, hln, hfc⟩ := elems_src (P := P) hi (hf.opd (df := df) hy) he
  have hrx := hf.opd (df := df) hx
  split at h
  · rename_i hX
    rw [hX] at hrx
    split at h
    case isFalse => cases h
    rename_i hroom
    have hx' : (Act.mk tmps df).eval x = .slice none 0 0 := by
      generalize (Act.mk tmps df).eval x = cv at hrx
      cases hrx; rfl
    split at h
    · rename_i hm
      cases h
      subst hm
      have hvs : vs = [] := by simpa using hlen
      subst hvs
      have hrun : (Builtin.append_ #[t, u] 0 #[(Act.mk tmps df).eval x, (Act.mk tmps df).eval y]).run P w = .ok (.slice none 0 0) w := by
        rw [hx']
        have hf0 := hfc w rfl
        have hl0 := hln w
        rcases hu with hu | ⟨e2, hu⟩ <;> simp [Builtin.append_, run_under ht, run_under hu, run_sizeOf hw, hl0, hf0]
      have := run_appendOp ha hts o ho _ hrun
      exact .pure hi (by simpa using this) (RelT.of .lstn)
    · rename_i hm
      simp only [Option.bind_eq_some_iff] at h
      obtain ⟨⟨l, i, σ1⟩, hn, h⟩ := h
      cases h
      have hroom' : (0 + m) * bytes ≤ room := by simpa using hroom
      obtain ⟨newCap, rest, k1, k2, k3⟩ := run_append_grow (P := P) (w := w) (a := none) (cap := 0) (n := 0) (old := []) (new := vs) (xv := (Act.mk tmps df).eval y) ht hu hw hb hz hzl hbpos hbl hroom' (by omega)
        (fun w' hw' => by simp [Builtin.firstCells]) (hln _) hfc g
      rw [← hx'] at k3
      have hrun := run_appendOp ha hts o ho _ k3
      obtain ⟨i1, e1⟩ := (hi.heap (w1 := w.drew) rfl).newCells hn vs (([] : List Value) ++ vs ++ rest).toArray el hr (by simp) (fun j y hy => ⟨by
        rw [List.getElem?_toArray, List.nil_append, List.getElem?_append_left (List.getElem?_eq_some_iff.1 hy).1]; exact hy, h1 y (List.mem_of_getElem? hy)⟩)
      refine .val (.slice (some ⟨w.heap.size, 0, none⟩) (0 + m) newCap) (by simpa using hrun) ((Ev.heap g (w := w) (w1 := w.drew) rfl rfl rfl rfl).trans e1) i1 ?_
      rw [Nat.zero_add]
      refine .sl l i 0 0 m wd _ _ _ G.setLoc_same (Nat.le_refl _) (by omega) (fun hh => by cases hh) (fun x hx _ => by cases hx; rfl) ?_ (fun hh => by cases hh)
      intro blk bo sz hL
      cases hL
      refine .inl ⟨rfl, ?_⟩
      have : newCap * wd = m * wd + (newCap - (0 + m)) * wd := by rw [← Nat.add_mul]; congr 1; omega
      simp; omega
  · rename_i l i v off n w' hX
    rw [hX] at hrx
    split at h
    case h_2 => cases h
    rename_i cs hcs
    split at h
    case isFalse => cases h
    rename_i hcond
    obtain ⟨hw', hle, hroom⟩ := hcond
    subst hw'
    obtain ⟨oa, ocap, ovs, hoc, hor, ho1, holen, honil, hord⟩ := elems_rel hi hrx (wd := w') (m := n) (xs := (cs.drop off).take (n * w')) (by simp [elems, hcs, hle]) (fun s hh => by cases hh)
    generalize hcv : (Act.mk tmps df).eval x = cv at hrx hoc
    cases hrx with
    | sl _ _ _ _ _ _ sa scap L k1 k2 k3 k4 k5 k6 k7 =>
      simp only [Value.slice.injEq, true_and] at hoc
      obtain ⟨hoc1, hoc2⟩ := hoc
      subst hoc1 hoc2
      unfold cells? at hcs
      split at hcs
      case h_2 => cases hcs
      rename_i v' cs' hblk
      split at hcs
      case isFalse => cases hcs
      rename_i hv; subst hv; cases hcs
      -- the new elements, made ready
      obtain ⟨xs', σ1, g1, i1, e1, r1, hlen', hblk1, rfl, rfl⟩ : ∃ xs' σ1 g1, Inv CR base g1 σ1 w ∧ Ev g w g1 w ∧ RelL g1 xs' vs ∧ xs'.length = xs.length ∧ blk? σ1 l i = some (.cells v' cs) ∧
          σ' = setBlk σ1 l i (.cells (v' + 1) ((cs.drop off).take (n * w') ++ xs')) ∧ d = .sl l i (v' + 1) 0 (n + m) w' := by
        split at h
        · cases h
          exact ⟨xs, σ, g, hi, Ev.refl g w, hr, rfl, hblk, rfl, rfl⟩
        · cases h
          obtain ⟨g1, i1, e1, r1⟩ := frzL_ok (CR := CR) (base := base) (frz_ok l deep) xs σ g w _ hi hr
          obtain ⟨_, k8, k9⟩ := frzL_keep l deep xs σ
          exact ⟨_, _, g1, i1, e1, r1, k8, (k9 l i (Nat.le_refl _)).trans hblk, rfl, rfl⟩
      obtain ⟨L1, hL1, hle1⟩ := e1.le.loc l i L k1
      obtain ⟨b1, hb1, hrel⟩ := i1.dom l i L1 hL1
      rw [hblk1] at hb1; cases hb1
      have hlx : (Builtin.lenOf ((Act.mk tmps df).eval y)).run P w = .ok m w := hln w
      have hnew : ∀ w1, w1.heap = w.heap → (Builtin.firstCells w' m ((Act.mk tmps df).eval y)).run P w1 = .ok vs.toArray w1 := hfc
      have hxl : xs'.length = m * w' := by rw [hlen', hr.length]; exact hlen
      have hold : ∀ w1, w1.heap = w.heap → (Builtin.firstCells w' n (.slice sa n scap)).run P w1 = .ok ovs.toArray w1 := fun w1 hw1 => run_firstCells honil holen hord w1 hw1
      have hrcat : RelL g1 ((cs.drop off).take (n * w') ++ xs') (ovs ++ vs) := (hor.mono e1.le).append r1
      have h1cat : ∀ x ∈ ovs ++ vs, x.oneCell' = true := fun x hx => by
        rcases List.mem_append.1 hx with hx | hx
        · exact ho1 x hx
        · exact h1 x hx
      have hnmw : (n + m) * w' = n * w' + m * w' := Nat.add_mul _ _ _
      by_cases hgrow : scap < n + m
      · -- a new block
        obtain ⟨newCap, rest, q1, q2, q3⟩ := run_append_grow (P := P) (w := w) (a := sa) (cap := scap) (n := n) (old := ovs) (new := vs) (xv := (Act.mk tmps df).eval y) ht hu hw hb hz hzl hbpos hbl hroom hgrow hold hlx hnew g
        rw [← hcv] at q3
        have hrun := run_appendOp ha hts o ho _ q3
        have hsize : ((ovs ++ vs ++ rest).toArray).size = newCap * w' := by
          have : newCap * w' = (n + m) * w' + (newCap - (n + m)) * w' := by rw [← Nat.add_mul]; congr 1; omega
          simp; omega
        have hver : L1.le (.at w.heap.size 0 (v' + 1) (newCap * w')) := by
          cases L1 with
          | dead => exact hrel.elim
          | lp z => exact hrel.elim
          | mp z => exact (Loc.okv_le k2 hle1).elim
          | it z => exact (Loc.okv_le k2 hle1).elim
          | ob z _ => exact (Loc.okv_le k2 hle1).elim
          | virt v2 => obtain ⟨rfl, _⟩ := hrel; simp only [Loc.le]; exact .inr (.inr (.inl ⟨_, _, _, _, rfl, by omega⟩))
          | «at» blk bo v2 bsz => obtain ⟨rfl, _⟩ := hrel; simp only [Loc.le]; exact .inr (.inr ⟨_, _, _, _, rfl, by omega⟩)
        have hle2 : g1.le (g1.setLoc l i (.at w.heap.size 0 (v' + 1) (newCap * w'))) := G.le_setLoc fun L0 e0 => by rw [hL1] at e0; cases e0; exact hver
        obtain ⟨i2, e2⟩ := i1.setCells (w' := w.drew.alloc (.cells (ovs ++ vs ++ rest).toArray el)) (L := .at w.heap.size 0 (v' + 1) (newCap * w')) (v := v' + 1) (ds := (cs.drop off).take (n * w') ++ xs') hL1 hblk1 hver
          ⟨rfl, (ovs ++ vs ++ rest).toArray, el, alloc_new (w := w.drew), hsize, by
            have : newCap * w' = (n + m) * w' + (newCap - (n + m)) * w' := by rw [← Nat.add_mul]; congr 1; omega
            rw [hrcat.length]; simp; omega, ovs ++ vs, hrcat.mono hle2, fun j x hx => ⟨by
              rw [List.getElem?_toArray, Nat.zero_add, List.getElem?_append_left (List.getElem?_eq_some_iff.1 hx).1]; exact hx, h1cat x (List.mem_of_getElem? hx)⟩⟩
          (fun b' hb' hne => alloc_old (w := w.drew) hb') rfl rfl rfl (by simp) (fun b' hb' => by cases hb'; exact .inr ⟨Nat.le_refl _, by simp⟩)
        refine .val (.slice (some ⟨w.heap.size, 0, none⟩) (n + m) newCap) (by simpa using hrun) (e1.trans e2) i2 ?_
        refine .sl l i _ _ _ _ _ _ _ G.setLoc_same (Nat.le_refl _) q1 (fun hh => by cases hh) (fun x hx _ => by cases hx; rfl) ?_ (fun hh => by cases hh)
        intro blk bo sz hL
        cases hL
        exact .inl ⟨rfl, by omega⟩
      · -- in its place
        have hne : n + m ≤ scap := by omega
        have hrun1 : ∀ (w1 : World), (match sa with | some a => Builtin.firstCells 0 0 (.slice none 0 0) | none => Builtin.firstCells 0 0 (.slice none 0 0)).run P w1 = .ok #[] w1 := by
          intro w1; cases sa <;> simp [Builtin.firstCells]
        cases L1 with
        | dead => exact hrel.elim
        | lp z => exact hrel.elim
        | mp z => exact (Loc.okv_le k2 hle1).elim
        | it z => exact (Loc.okv_le k2 hle1).elim
        | ob z _ => exact (Loc.okv_le k2 hle1).elim
        | virt v2 =>
          obtain ⟨rfl, rfl⟩ := hrel
          obtain rfl := k7 (Loc.back_virt k2 hle1 rfl)
          obtain rfl := k4 rfl
          obtain rfl : n = 0 := by omega
          obtain rfl : m = 0 := by omega
          have hvs : vs = [] := by simpa using hlen
          subst hvs
          have hxs' : xs' = [] := by simpa using hxl
          subst hxs'
          have hrun : (Builtin.append_ #[t, u] 0 #[(Act.mk tmps df).eval x, (Act.mk tmps df).eval y]).run P w = .ok (.slice none 0 0) w := by
            have := hnew w rfl
            rw [hcv]
            rcases hu with hu | ⟨e2, hu⟩ <;> simp [Builtin.append_, run_under ht, run_under hu, run_sizeOf hw, hlx, this]
          have hrun := run_appendOp ha hts o ho _ hrun
          have hver : Loc.le (.virt v') (.virt (v' + 1)) := by simp only [Loc.le]; exact .inr (.inr (.inr ⟨_, rfl, by omega⟩))
          obtain ⟨i2, e2⟩ := i1.setCells (w' := w) (L := .virt (v' + 1)) (v := v' + 1) (ds := (([] : List D).drop off).take (0 * w') ++ []) hL1 hblk1 hver ⟨rfl, by simp⟩ (fun b' hb' hne => rfl) rfl rfl rfl (Nat.le_refl _) (fun b' hb' => by cases hb')
          refine .val (.slice none 0 0) (by simpa using hrun) (e1.trans e2) i2 ?_
          exact .sl l i _ _ _ _ none 0 _ G.setLoc_same (Nat.le_refl _) (by omega) (fun _ => rfl) (fun _ hh => by cases hh) (fun _ _ _ hh => by cases hh) (fun _ => rfl)
        | «at» blk bo v2 bsz =>
          obtain ⟨rfl, ca, el', hheap, hcsz, hclen, cvs, hcr, hcvs⟩ := hrel
          have hLeq := Loc.back k2 hle1 rfl
          have hcl := hcr.length
          have hofs : bo + off + (n * w') ≤ bsz := by omega
          -- the row is written
          have hwr : ∃ w2 c2, (Builtin.append_ #[t, u] 0 #[(Act.mk tmps df).eval x, (Act.mk tmps df).eval y]).run P w = .ok (.slice sa (n + m) scap) w2 ∧ w2.heap[blk]? = some (.cells c2 el' (0, 0)) ∧ c2.size = ca.size ∧
              bo + off + (n + m) * w' ≤ bsz ∧
              (∀ j, c2[j]? = if bo + off + n * w' ≤ j ∧ j < bo + off + n * w' + vs.length then vs[j - (bo + off + n * w')]? else ca[j]?) ∧ (∀ x, x ≠ blk → w2.heap[x]? = w.heap[x]?) ∧ w2.heap.size = w.heap.size ∧
              w2.os = w.os ∧ w2.tape = w.tape ∧ w2.output = w.output := by
            have hn2 := hnew w rfl
            rcases k6 blk bo bsz hLeq with ⟨rfl, k8⟩ | k8
            · have hcapw : (n + m) * w' ≤ scap * w' := Nat.mul_le_mul_right _ hne
              obtain ⟨w2, c2, hrun, r2, r3, r4, r5⟩ := run_storeCells (P := P) (b := blk) (el := el') vs w (bo + off + n * w') 0 ca h1 hheap (by omega)
              refine ⟨w2, c2, ?_, r2, r3, by omega, by simpa using r4, r5⟩
              rw [hcv]
              have hadd : Addr.add ⟨blk, bo + off, none⟩ (n * w') = ⟨blk, bo + off + n * w', none⟩ := add_eq _ _ _
              rcases hu with hu | ⟨e2, hu⟩ <;> simp [Builtin.append_, run_under ht, run_under hu, run_sizeOf hw, hlx, hn2, hne, hadd, hrun]
            · obtain rfl : n = 0 := by omega
              obtain rfl : m = 0 := by omega
              have hvs : vs = [] := by simpa using hlen
              subst hvs
              refine ⟨w, ca, ?_, hheap, rfl, by omega, fun j => by rw [if_neg (by simp only [List.length_nil]; omega)], fun _ _ => rfl, rfl, rfl, rfl, rfl⟩
              rw [hcv]
              subst k8
              have hst : ∀ (aa : Addr), (storeCells aa ([] : List Value) 0).run P w = .ok () w := fun aa => by simp [storeCells]
              cases sa with
              | none => rcases hu with hu | ⟨e2, hu⟩ <;> simp [Builtin.append_, run_under ht, run_under hu, run_sizeOf hw, hlx, hn2]
              | some aa => rcases hu with hu | ⟨e2, hu⟩ <;> simp [Builtin.append_, run_under ht, run_under hu, run_sizeOf hw, hlx, hn2, hst]
          obtain ⟨w2, c2, hrun, p1, p2, p3, p4, p5, p6, p7, p8, p9⟩ := hwr
          have hrun := run_appendOp ha hts o ho _ hrun
          have hver : Loc.le (.at blk bo v' bsz) (.at blk (bo + off) (v' + 1) bsz) := by simp only [Loc.le]; exact .inr (.inr ⟨_, _, _, _, rfl, by omega⟩)
          have hle2 : g1.le (g1.setLoc l i (.at blk (bo + off) (v' + 1) bsz)) := G.le_setLoc fun L0 e0 => by rw [hL1] at e0; cases e0; exact hver
          have hcellsrel : RelL g1 ((cs.drop off).take (n * w') ++ xs') ((cvs.drop off).take (n * w') ++ vs) := ((hcr.drop off).take _).append r1
          have hl1 : ((cvs.drop off).take (n * w')).length = n * w' := by simp; omega
          obtain ⟨i2, e2⟩ := i1.setCells (w' := w2) (L := .at blk (bo + off) (v' + 1) bsz) (v := v' + 1) (ds := (cs.drop off).take (n * w') ++ xs') hL1 hblk1 hver
            ⟨rfl, c2, el', p1, by rw [p2, hcsz], by rw [hcellsrel.length, List.length_append, hl1, hlen]; omega, (cvs.drop off).take (n * w') ++ vs, hcellsrel.mono hle2, fun j x hx => by
              rw [p4]
              rw [List.getElem?_append] at hx
              split at hx
              · rename_i hj
                rw [hl1] at hj
                rw [if_neg (by omega)]
                rw [List.getElem?_take, if_pos hj, List.getElem?_drop] at hx
                have := hcvs _ x hx
                rwa [show bo + (off + j) = bo + off + j from by omega] at this
              · rename_i hj
                rw [hl1] at hj hx
                have hlt := (List.getElem?_eq_some_iff.1 hx).1
                rw [if_pos (by omega), show bo + off + j - (bo + off + n * w') = j - n * w' from by omega]
                exact ⟨hx, h1 x (List.mem_of_getElem? hx)⟩⟩
            (fun b' hb' hne => p5 b' (fun hh => hne (by rw [hh]; rfl))) p7 p8 p9 (by omega) (fun b' hb' => .inl hb')
          refine .val (.slice sa (n + m) scap) (by simpa using hrun) (e1.trans e2) i2 ?_
          refine .sl l i _ _ _ _ _ _ _ G.setLoc_same (Nat.le_refl _) ⟨hne, k3.2⟩ k4 ?_ ?_ (fun hh => by cases hh)
          · intro x hx hne0
            subst hx
            rcases k6 blk bo bsz hLeq with ⟨k9, _⟩ | k9
            · cases k9; rfl
            · omega
          · intro blk' bo' sz' hL
            cases hL
            rcases k6 blk bo bsz hLeq with ⟨k9, k10⟩ | k9
            · exact .inl ⟨by rw [k9]; simp, by omega⟩
            · exact .inr k9
  · cases h


theorem sop_app {e : Env} {σ : Stack} {w bytes : Nat} {s x : Opd} : sop e σ (.app w bytes s x) = appD e σ w bytes s x := rfl
theorem appD_val {e : Env} {σ σ' : Stack} {d : D} {w bytes : Nat} {s x : Opd} (h : appD e σ w bytes s x = some (d, σ')) : d = .lst 0 [] ∨ ∃ l i v off n w, d = .sl l i v off n w := by
  simp only [appD, Option.bind_eq_bind, Option.bind_eq_some_iff] at h
  obtain ⟨⟨m, xs⟩, he, h⟩ := h
  dsimp only at h
  split at h
  · split at h
    case isFalse => cases h
    split at h
    · cases h; exact .inl rfl
    · simp only [Option.bind_eq_some_iff] at h
      obtain ⟨⟨l, i, σ1⟩, hn, h⟩ := h
      cases h
      exact .inr ⟨_, _, _, _, _, _, rfl⟩
  · split at h
    case h_2 => cases h
    split at h
    case isFalse => cases h
    split at h
    · cases h; exact .inr ⟨_, _, _, _, _, _, rfl⟩
    · cases h; exact .inr ⟨_, _, _, _, _, _, rfl⟩
  · cases h

theorem sop_apc {e : Env} {σ : Stack} {os : List Nat} {w bytes : Nat} {s x : Opd} {r : D × Stack} (h : sop e σ (.apc os w bytes s x) = some r) : sop e σ (.app w bytes s x) = some r := by
  rw [sop_app]
  simp only [sop] at h
  split at h
  case h_2 => cases h
  split at h
  case isFalse => cases h
  simp only [Option.bind_eq_some_iff] at h
  obtain ⟨_, _, h⟩ := h
  split at h
  · exact h
  · cases h

theorem s_apz (hf : Fr fb V g w B e tmps) (hi : Inv CR base g σ w) {x y : Operand} {X Y : Opd} {args : Array Operand} {ts : Array TypeId} {t u el : TypeId} {wd bytes : Nat} {z : List D} (hx : opdC x = some X) (hy : opdC y = some Y)
    (ha : args.toList = [x, y]) (hts : ts.toList = [t, u]) (ht : P.underlying t = some (.slice el)) (hu : P.underlying u = some .string ∨ ∃ e2, P.underlying u = some (.slice e2))
    (hw : sizeC P el = some wd) (hb : (P.info? el).map (·.bytes) = some bytes) (hz : zeroC P el = some z) (hzl : z.length = wd) (hbpos : 0 < bytes) (hbl : bytes ≤ 2 ^ 20)
    (h : sop e σ (.apz wd bytes X Y) = some (d, σ')) (o : Oper) (ho : o.op = .call { callee := .builtin .append, args, argTypes := ts }) : Does P CR base g w B e (Act.mk tmps df).eval o d σ' := by
  simp only [sop, Option.map_eq_some_iff, Prod.exists] at h
  obtain ⟨d1, σ1, h1, h2⟩ := h
  have hv := appD_val h1
  rw [← sop_app] at h1
  obtain ⟨v, c, g', w', k1, k2, k3, k4, k5⟩ := s_app (df := df) hf hi hx hy ha hts ht hu hw hb hz hzl hbpos hbl h1 o ho
  have k6 : RelV g' d1 c := by
    rcases hv with rfl | ⟨l, i, v, off, n, w, rfl⟩
    · exact k5
    · exact k5
  obtain ⟨g2, i2, e2, r2⟩ := frz_ok (CR := CR) (base := base) 0 deep d1 σ1 g' w' c k4 k6
  rw [h2] at i2 r2
  exact ⟨v, c, g2, w', k1, k2, k3.trans e2, i2, RelT.of r2⟩

end ops
end Go.Abs

/-
  Operations on texts.
-/
set_option linter.unusedVariables false
set_option linter.unusedSimpArgs false
namespace Go.Abs
open Go

section
variable {P : Program} {CR : CRel} {base fb : Nat} {V : List Nat} {g : G} {σ σ' : Stack} {w : World} {B : Nat → Nat} {e : Env} {tmps : Array Value} {df : List Deferred}
  {a : Ann} {ops : Array Oper} {key : Nat} {k : K} {d : D}

theorem RelV.str_inv {s : List UInt8} {c : Value} (h : RelV g (.str s) c) : ∃ b : ByteArray, c = .string b ∧ b.data.toList = s := by
  generalize hd : D.str s = d at h
  cases h <;> cases hd
  exact ⟨_, rfl, rfl⟩
theorem str_rel (b : ByteArray) {s : List UInt8} (h : b.data.toList = s) : RelV g (.str s) (.string b) := by subst h; exact .str b
theorem ba_size (b : ByteArray) : b.data.toList.length = b.size := by cases b; rfl

theorem s_slen (hf : Fr fb V g w B e tmps) (hi : Inv CR base g σ w) {x : Operand} {X : Opd} {t : TypeId} {args : Array Operand} {ts : Array TypeId} {r : List Operand} {tr : List TypeId} (hx : opdC x = some X)
    (ht : P.underlying t = some .string) (ha : args.toList = x :: r) (hts : ts.toList = t :: tr)
    (h : sop e σ (.pur .slen [X]) = some (d, σ')) (o : Oper) (ho : o.op = .call { callee := .builtin .len, args, argTypes := ts }) : Does P CR base g w B e (Act.mk tmps df).eval o d σ' := by
  have hr := hf.opd (df := df) hx
  obtain rfl : args = (x :: r).toArray := by rw [← ha]
  obtain rfl : ts = (t :: tr).toArray := by rw [← hts]
  simp only [sop, Option.map_eq_some_iff, List.map_cons, List.map_nil] at h
  obtain ⟨d0, hp, h⟩ := h
  cases h
  generalize opd e X = dx at hr hp
  cases dx <;> simp only [puD, reduceCtorEq, Option.some.injEq] at hp
  subst hp
  obtain ⟨b, hb, rfl⟩ := hr.str_inv
  refine .pure hi (c := .int .i64 b.size) (by simp [execOp, ho, resolve, invoke, builtin, Builtin.len_, hb, run_under ht, goInt]) ?_
  rw [ba_size]
  exact RelT.of (.int _ _)

theorem s_sidx (hf : Fr fb V g w B e tmps) (hi : Inv CR base g σ w) {x y : Operand} {X Y : Opd} {t : TypeId} (hx : opdC x = some X) (hy : opdC y = some Y)
    (ht : P.underlying t = some .string)
    (h : sop e σ (.pur .sidx [X, Y]) = some (d, σ')) (o : Oper) (ho : o.op = .index t x y) : Does P CR base g w B e (Act.mk tmps df).eval o d σ' := by
  have hr := hf.opd (df := df) hx
  have hr' := hf.opd (df := df) hy
  simp only [sop, Option.map_eq_some_iff, List.map_cons, List.map_nil] at h
  obtain ⟨d0, hp, h⟩ := h
  cases h
  generalize opd e X = dx at hr hp
  generalize opd e Y = dy at hr' hp
  cases dx <;> cases dy <;> simp only [puD, reduceCtorEq, Option.ite_none_right_eq_some, Option.map_eq_some_iff] at hp
  rename_i s k i
  obtain ⟨h0, u, hu, rfl⟩ := hp
  obtain ⟨b, hb, rfl⟩ := hr.str_inv
  have hi' := hr'.int_inv
  have hlt : i.toNat < b.size := by rw [← ba_size]; exact (List.getElem?_eq_some_iff.1 hu).1
  have hu2 : b[i.toNat]'hlt = u := by
    have := (List.getElem?_eq_some_iff.1 hu).2
    rw [← this]
    cases b
    rfl
  have hin : 0 ≤ i ∧ i < b.size := by omega
  refine .pure hi (c := .int .u8 u.toNat) ?_ (RelT.of (.int _ _))
  have hrun := run_index_string (P := P) w t b k i ht
  rw [dif_pos hin, hu2] at hrun
  simp [execOp, ho, hb, hi', hrun]

theorem s_scat (hf : Fr fb V g w B e tmps) (hi : Inv CR base g σ w) {x y : Operand} {X Y : Opd} {t u : TypeId} (hx : opdC x = some X) (hy : opdC y = some Y)
    (h : sop e σ (.pur .scat [X, Y]) = some (d, σ')) (o : Oper) (ho : o.op = .binOp .add t x y u) : Does P CR base g w B e (Act.mk tmps df).eval o d σ' := by
  have hr := hf.opd (df := df) hx
  have hr' := hf.opd (df := df) hy
  simp only [sop, Option.map_eq_some_iff, List.map_cons, List.map_nil] at h
  obtain ⟨d0, hp, h⟩ := h
  cases h
  generalize opd e X = dx at hr hp
  generalize opd e Y = dy at hr' hp
  cases dx <;> cases dy <;> simp only [puD, reduceCtorEq, Option.ite_none_right_eq_some, Option.some.injEq] at hp
  obtain ⟨h0, rfl⟩ := hp
  obtain ⟨a1, h1, rfl⟩ := hr.str_inv
  obtain ⟨a2, h2, rfl⟩ := hr'.str_inv
  simp only [ba_size] at h0
  refine .pure hi (c := .string (a1 ++ a2)) ?_ (RelT.of (str_rel _ (by simp [ByteArray.data_append])))
  have hrun := run_string_add_sum (P := P) w a1 a2 (by omega)
  simp [execOp, ho, h1, h2, binOp, eqGuard, hrun]

theorem s_seq (hf : Fr fb V g w B e tmps) (hi : Inv CR base g σ w) {x y : Operand} {X Y : Opd} {t u : TypeId} {neg : Bool} (hx : opdC x = some X) (hy : opdC y = some Y)
    (h : sop e σ (.pur (.seq neg) [X, Y]) = some (d, σ')) (o : Oper) (ho : o.op = .binOp (if neg then .neq else .eql) t x y u) : Does P CR base g w B e (Act.mk tmps df).eval o d σ' := by
  have hr := hf.opd (df := df) hx
  have hr' := hf.opd (df := df) hy
  simp only [sop, Option.map_eq_some_iff, List.map_cons, List.map_nil] at h
  obtain ⟨d0, hp, h⟩ := h
  cases h
  generalize opd e X = dx at hr hp
  generalize opd e Y = dy at hr' hp
  cases dx <;> cases dy <;> simp only [puD, reduceCtorEq, Option.some.injEq] at hp
  subst hp
  obtain ⟨a1, h1, rfl⟩ := hr.str_inv
  obtain ⟨a2, h2, rfl⟩ := hr'.str_inv
  cases neg
  · refine .pure hi (c := .bool (a1.data.toList == a2.data.toList)) ?_ (RelT.of (.bool _))
    simp [execOp, ho, h1, h2, eqGuard, binOp_string_eql, binOp_string_neq, ByteArray.toList_eq]
  · refine .pure hi (c := .bool !(a1.data.toList == a2.data.toList)) ?_ (RelT.of (.bool _))
    simp [execOp, ho, h1, h2, eqGuard, binOp_string_eql, binOp_string_neq, ByteArray.toList_eq]

theorem s_ssub (hf : Fr fb V g w B e tmps) (hi : Inv CR base g σ w) {x : Operand} {X : Opd} {t : TypeId} {lo hi' : Option Operand} {Lo Hi : Option Opd} (hx : opdC x = some X)
    (ht : P.underlying t = some .string) (hlo : optC lo = some Lo) (hhi : optC hi' = some Hi)
    (h : sop e σ (.pur (.ssub Lo.isSome Hi.isSome) (X :: (Lo.toList ++ Hi.toList))) = some (d, σ')) (o : Oper) (ho : o.op = .slice t x lo hi' none) : Does P CR base g w B e (Act.mk tmps df).eval o d σ' := by
  have hr := hf.opd (df := df) hx
  have opt : ∀ {z : Option Operand} {Z : Option Opd}, optC z = some Z → (z = none ∧ Z = none) ∨ ∃ q Q, z = some q ∧ Z = some Q ∧ opdC q = some Q := by
    intro z Z hz
    cases z with
    | none => simp only [optC, Option.some.injEq] at hz; exact .inl ⟨rfl, hz.symm⟩
    | some q =>
      simp only [optC, Option.map_eq_some_iff] at hz
      obtain ⟨Q, hQ, rfl⟩ := hz
      exact .inr ⟨q, Q, rfl, rfl, hQ⟩
  simp only [sop, Option.map_eq_some_iff] at h
  obtain ⟨d0, hp, h⟩ := h
  cases h
  have ex : ∀ (b : ByteArray) (i j : Nat), j ≤ b.size → (b.extract i j).data.toList = (b.data.toList.drop i).take (j - i) := fun b i j hj => by
    simp [ByteArray.data_extract]
  rcases opt hlo with ⟨rfl, rfl⟩ | ⟨l, L, rfl, rfl, hl⟩ <;> rcases opt hhi with ⟨rfl, rfl⟩ | ⟨m, M, rfl, rfl, hm⟩
  · simp only [Option.isSome_none, Option.toList_none, List.append_nil, List.map_cons, List.map_nil] at hp
    generalize opd e X = dx at hr hp
    cases dx <;> simp only [puD, reduceCtorEq, Option.some.injEq] at hp
    subst hp
    obtain ⟨b, hb, rfl⟩ := hr.str_inv
    refine .pure hi (c := .string (b.extract 0 b.size)) ?_ (RelT.of (str_rel _ ?_))
    · have hrun := run_slice_string_all (P := P) w t b ht
      simp [execOp, ho, hb, run_sliceAt_string (P := P) (h := ht), hrun]
    · rw [ex b 0 b.size (Nat.le_refl _), List.drop_zero, Nat.sub_zero, ← ba_size, List.take_length]
  · have hrm := hf.opd (df := df) hm
    simp only [Option.isSome_none, Option.isSome_some, Option.toList_none, Option.toList_some, List.nil_append, List.map_cons, List.map_nil] at hp
    generalize opd e X = dx at hr hp
    generalize opd e M = dm at hrm hp
    cases dx <;> cases dm <;> simp only [puD, reduceCtorEq, Option.ite_none_right_eq_some, Option.some.injEq] at hp
    rename_i s k j
    obtain ⟨h0, rfl⟩ := hp
    obtain ⟨b, hb, rfl⟩ := hr.str_inv
    have hj := hrm.int_inv
    rw [ba_size] at h0
    refine .pure hi (c := .string (b.extract 0 j.toNat)) ?_ (RelT.of (str_rel _ ?_))
    · have hrun := run_slice_string_h (P := P) w t b ht k j h0.1 h0.2
      simp [execOp, ho, hb, hj, run_sliceAt_string (P := P) (h := ht), hrun]
    · rw [ex b 0 j.toNat (by omega), List.drop_zero, Nat.sub_zero]
  · have hrl := hf.opd (df := df) hl
    simp only [Option.isSome_none, Option.isSome_some, Option.toList_none, Option.toList_some, List.append_nil, List.map_cons, List.map_nil] at hp
    generalize opd e X = dx at hr hp
    generalize opd e L = dm at hrl hp
    cases dx <;> cases dm <;> simp only [puD, reduceCtorEq, Option.ite_none_right_eq_some, Option.some.injEq] at hp
    rename_i s k j
    obtain ⟨h0, rfl⟩ := hp
    obtain ⟨b, hb, rfl⟩ := hr.str_inv
    have hj := hrl.int_inv
    rw [ba_size] at h0
    refine .pure hi (c := .string (b.extract j.toNat b.size)) ?_ (RelT.of (str_rel _ ?_))
    · have hrun := run_slice_string_l (P := P) w t b ht k j h0.1 h0.2
      simp [execOp, ho, hb, hj, run_sliceAt_string (P := P) (h := ht), hrun]
    · rw [ex b j.toNat b.size (Nat.le_refl _)]
      exact List.take_of_length_le (by rw [List.length_drop, ba_size]; exact Nat.le_refl _)
  · have hrl := hf.opd (df := df) hl
    have hrm := hf.opd (df := df) hm
    simp only [Option.isSome_some, Option.toList_some, List.cons_append, List.nil_append, List.map_cons, List.map_nil] at hp
    generalize opd e X = dx at hr hp
    generalize opd e L = dl at hrl hp
    generalize opd e M = dm at hrm hp
    cases dx <;> cases dl <;> cases dm <;> simp only [puD, reduceCtorEq, Option.ite_none_right_eq_some, Option.some.injEq] at hp
    rename_i s k i k' j
    obtain ⟨h0, rfl⟩ := hp
    obtain ⟨b, hb, rfl⟩ := hr.str_inv
    have hi1 := hrl.int_inv
    have hj := hrm.int_inv
    rw [ba_size] at h0
    refine .pure hi (c := .string (b.extract i.toNat j.toNat)) ?_ (RelT.of (str_rel _ ?_))
    · have hrun := run_slice_string (P := P) w t b k k' i j ht h0.1 h0.2.1 h0.2.2
      simp [execOp, ho, hb, hi1, hj, run_sliceAt_string (P := P) (h := ht), hrun]
    · exact ex b i.toNat j.toNat (by omega)
end
end Go.Abs

/-
  '==' on bools, structs and arrays of numbers and bools.
-/
set_option linter.unusedVariables false
set_option linter.unusedSimpArgs false
namespace Go.Abs
open Go

theorem eqK_nil {p q : List D} {b : Bool} (h : eqK [] p q = some b) : p = [] ∧ q = [] ∧ b = true := by
  cases p with
  | nil => cases q with
    | nil => simp only [eqK, Option.some.injEq] at h; exact ⟨rfl, rfl, h.symm⟩
    | cons => simp [eqK] at h
  | cons => simp [eqK] at h

theorem eqK_some {k : IntKind} {ks : List (Option IntKind)} {p q : List D} {b : Bool} (h : eqK (some k :: ks) p q = some b) :
    ∃ a x c y b0, p = .int k a :: x ∧ q = .int k c :: y ∧ eqK ks x y = some b0 ∧ b = (a == c && b0) := by
  cases p with
  | nil => simp [eqK] at h
  | cons d1 x =>
    cases q with
    | nil => cases d1 <;> simp [eqK] at h
    | cons d2 y =>
      cases d1 <;> cases d2 <;> try (simp [eqK] at h; done)
      rename_i k1 a k2 c
      simp only [eqK] at h
      split at h
      · rename_i hk
        obtain ⟨rfl, rfl⟩ := hk
        simp only [Option.map_eq_some_iff] at h
        obtain ⟨b0, h0, rfl⟩ := h
        exact ⟨a, x, c, y, b0, rfl, rfl, h0, rfl⟩
      · cases h

theorem eqK_none {ks : List (Option IntKind)} {p q : List D} {b : Bool} (h : eqK (none :: ks) p q = some b) :
    ∃ a x c y b0, p = .bool a :: x ∧ q = .bool c :: y ∧ eqK ks x y = some b0 ∧ b = (a == c && b0) := by
  cases p with
  | nil => simp [eqK] at h
  | cons d1 x =>
    cases q with
    | nil => cases d1 <;> simp [eqK] at h
    | cons d2 y =>
      cases d1 <;> cases d2 <;> try (simp [eqK] at h; done)
      rename_i a c
      simp only [eqK, Option.map_eq_some_iff] at h
      obtain ⟨b0, h0, rfl⟩ := h
      exact ⟨a, x, c, y, b0, rfl, rfl, h0, rfl⟩

theorem eqK_append : ∀ (k1 k2 : List (Option IntKind)) (p q : List D) (b : Bool), eqK (k1 ++ k2) p q = some b →
    ∃ b1 b2, eqK k1 (p.take k1.length) (q.take k1.length) = some b1 ∧ eqK k2 (p.drop k1.length) (q.drop k1.length) = some b2 ∧ b = (b1 && b2)
  | [], k2, p, q, b, h => ⟨true, b, by simp [eqK], by simpa using h, by simp⟩
  | some k :: k1, k2, p, q, b, h => by
    obtain ⟨a, x, c, y, b0, rfl, rfl, h0, rfl⟩ := eqK_some h
    obtain ⟨b1, b2, e1, e2, rfl⟩ := eqK_append k1 k2 x y b0 h0
    exact ⟨a == c && b1, b2, by simp [eqK, e1], by simpa using e2, by rw [Bool.and_assoc]⟩
  | none :: k1, k2, p, q, b, h => by
    obtain ⟨a, x, c, y, b0, rfl, rfl, h0, rfl⟩ := eqK_none h
    obtain ⟨b1, b2, e1, e2, rfl⟩ := eqK_append k1 k2 x y b0 h0
    exact ⟨a == c && b1, b2, by simp [eqK, e1], by simpa using e2, by rw [Bool.and_assoc]⟩

theorem eqK_len : ∀ (ks : List (Option IntKind)) (p q : List D) (b : Bool), eqK ks p q = some b → p.length = ks.length ∧ q.length = ks.length
  | [], p, q, b, h => by obtain ⟨rfl, rfl, _⟩ := eqK_nil h; exact ⟨rfl, rfl⟩
  | some k :: ks, p, q, b, h => by
    obtain ⟨a, x, c, y, b0, rfl, rfl, h0, rfl⟩ := eqK_some h
    obtain ⟨h1, h2⟩ := eqK_len ks x y b0 h0
    exact ⟨by simp [h1], by simp [h2]⟩
  | none :: ks, p, q, b, h => by
    obtain ⟨a, x, c, y, b0, rfl, rfl, h0, rfl⟩ := eqK_none h
    obtain ⟨h1, h2⟩ := eqK_len ks x y b0 h0
    exact ⟨by simp [h1], by simp [h2]⟩

section
variable {P : Program} {g : G} {w : World}

def IsRow (g : G) (ag : Bool) (p : List D) (x : Value) : Prop :=
  if ag then ∃ xs, x = .agg xs ∧ RelL g p xs.toList ∧ ∀ y ∈ xs.toList, y.oneCell' = true else RelL g p [x]

def EqAt (P : Program) (g : G) (w : World) (n : Nat) (t : TypeId) (ks : List (Option IntKind)) : Prop :=
  ∃ ag, aggC P t = some ag ∧ (ag = false → ks.length = 1) ∧ ∀ m, n ≤ m → ∀ p q x y b, IsRow g ag p x → IsRow g ag q y → eqK ks p q = some b → (Op.equalIn m t x y).run P w = .ok b w

theorem part_at {t : TypeId} {ag : Bool} {n : Nat} {xs : Array Value} {p : List D} {o : Nat} (hag : aggC P t = some ag) (hsz : sizeC P t = some n) (hone : ag = false → n = 1) (hr : RelL g p xs.toList) (h1 : ∀ y ∈ xs.toList, y.oneCell' = true) (hlen : o + n ≤ p.length) :
    ∃ a, (part t xs o).run P w = .ok a w ∧ IsRow g ag ((p.drop o).take n) a := by
  cases ag with
  | true =>
    obtain ⟨c, hc, hrc⟩ := part_run (P := P) (w := w) (d := .agg ((p.drop o).take n)) hag hsz hr h1 hlen (by simp)
    cases hrc with
    | agg _ cs h2 h3 => exact ⟨_, hc, cs, rfl, h2, h3⟩
  | false =>
    obtain rfl := hone rfl
    have hlt : o < p.length := by omega
    obtain ⟨c, hc, hrc⟩ := part_run (P := P) (w := w) (d := p[o]) hag hsz hr h1 hlen (by simp [hlt])
    refine ⟨c, hc, ?_⟩
    have : (p.drop o).take 1 = [p[o]] := by
      rw [List.drop_eq_getElem_cons hlt]; rfl
    rw [this]
    exact .cons _ _ _ _ hrc .nil

theorem eqFields_ok {n : Nat} {f : TypeId → Option (List (Option IntKind))} (hf : ∀ t ks, f t = some ks → EqAt P g w n t ks) {m : Nat} (hm : n ≤ m) {xs ys : Array Value} {p q : List D} (hx : RelL g p xs.toList) (hy : RelL g q ys.toList)
    (h1x : ∀ y ∈ xs.toList, y.oneCell' = true) (h1y : ∀ y ∈ ys.toList, y.oneCell' = true) :
    ∀ (fs : List Field) (o : Nat) (ks : List (Option IntKind)) (b : Bool), kindsC.kindsF P f o fs = some ks → eqK ks (p.drop o) (q.drop o) = some b → (Op.eqFields m xs ys fs).run P w = .ok b w
  | [], o, ks, b, hk, he => by
    simp only [kindsC.kindsF, Option.some.injEq] at hk; subst hk
    obtain ⟨_, _, rfl⟩ := eqK_nil he
    simp [Op.eqFields]
  | x :: fs, o, ks, b, hk, he => by
    simp only [kindsC.kindsF] at hk
    split at hk
    case h_2 => cases hk
    rename_i k1 hk1
    split at hk
    case isFalse => cases hk
    rename_i hc
    obtain ⟨hname, hoff, hsz, hpos⟩ := hc
    simp only [Option.map_eq_some_iff] at hk
    obtain ⟨k2, hk2, rfl⟩ := hk
    obtain ⟨l1, l2⟩ := eqK_len _ _ _ _ he
    obtain ⟨b1, b2, e1, e2, rfl⟩ := eqK_append _ _ _ _ _ he
    simp only [List.length_append, List.length_drop] at l1 l2
    obtain ⟨ag, hag, hone, hEq⟩ := hf _ _ hk1
    have hone' := hone
    obtain ⟨a, ha, hra⟩ := part_at (P := P) (w := w) (p := p) (o := o) hag hsz hone hx h1x (by omega)
    obtain ⟨c, hc, hrc⟩ := part_at (P := P) (w := w) (p := q) (o := o) hag hsz hone hy h1y (by omega)
    have hrun := hEq m hm _ _ a c b1 hra hrc e1
    have ih := eqFields_ok hf hm hx hy h1x h1y fs (o + k1.length) k2 b2 hk2 (by simpa [List.drop_drop] using e2)
    simp only [Op.eqFields, hoff]
    rw [if_pos hname]
    simp only [Sem.run_bind, ha, hc, hrun, Result.andThen_ok, Sem.run_ite, ih]
    cases b1 <;> simp

theorem eqItems_ok {n : Nat} {t : TypeId} {k : List (Option IntKind)} (hE : EqAt P g w n t k) (hsz : sizeC P t = some k.length) (hpos : 0 < k.length) {m : Nat} (hm : n ≤ m) {xs ys : Array Value} {p q : List D} (hx : RelL g p xs.toList) (hy : RelL g q ys.toList)
    (h1x : ∀ y ∈ xs.toList, y.oneCell' = true) (h1y : ∀ y ∈ ys.toList, y.oneCell' = true) :
    ∀ (r i : Nat) (b : Bool), eqK ((List.range r).flatMap fun _ => k) (p.drop (i * k.length)) (q.drop (i * k.length)) = some b →
      (Op.eqItems m t (P.cellsOf t) xs ys (List.range' i r)).run P w = .ok b w
  | 0, i, b, he => by
    simp only [List.range_zero, List.flatMap_nil] at he
    obtain ⟨_, _, rfl⟩ := eqK_nil he
    simp [Op.eqItems]
  | r + 1, i, b, he => by
    have hfl : ((List.range (r + 1)).flatMap fun _ => k) = k ++ (List.range r).flatMap fun _ => k := by
      rw [List.range_succ_eq_map, List.flatMap_cons, List.flatMap_map]
    rw [hfl] at he
    have he0 := he
    obtain ⟨b1, b2, e1, e2, rfl⟩ := eqK_append _ _ _ _ _ he
    obtain ⟨ag, hag, hone, hEq⟩ := hE
    have hcells : P.cellsOf t = k.length := by
      simp only [sizeC] at hsz
      simp [Program.cellsOf, hsz]
    have hl := eqK_len _ _ _ _ he0
    simp only [List.length_append, List.length_drop] at hl
    obtain ⟨a, ha, hra⟩ := part_at (P := P) (w := w) (o := i * k.length) hag hsz hone hx h1x (by omega)
    obtain ⟨c, hc, hrc⟩ := part_at (P := P) (w := w) (o := i * k.length) hag hsz hone hy h1y (by omega)
    have hrun := hEq m hm _ _ a c b1 hra hrc e1
    have ih := eqItems_ok ⟨ag, hag, hone, hEq⟩ hsz hpos hm hx hy h1x h1y r (i + 1) b2 (by
      rw [List.drop_drop, List.drop_drop] at e2
      rw [Nat.add_mul, Nat.one_mul]
      exact e2)
    rw [List.range'_succ]
    simp only [Op.eqItems, hcells] at ih ⊢
    simp only [Sem.run_bind, ha, hc, hrun, Result.andThen_ok, Sem.run_ite, ih]
    cases b1 <;> simp

theorem kinds_ok : ∀ (n : Nat) (t : TypeId) (ks : List (Option IntKind)), kindsC P n t = some ks → EqAt P g w n t ks
  | 0, t, ks, h => by simp [kindsC] at h
  | n + 1, t, ks, h => by
    simp only [kindsC] at h
    split at h
    · rename_i k hu
      cases h
      refine ⟨false, by simp [aggC, hu], fun _ => rfl, fun m hm p q x y b hx hy he => ?_⟩
      obtain ⟨m, rfl⟩ : ∃ m', m = m' + 1 := ⟨m - 1, by omega⟩
      simp only [IsRow, Bool.false_eq_true, if_false] at hx hy
      obtain ⟨a, x1, c, y1, b0, rfl, rfl, h0, rfl⟩ := eqK_some he
      obtain ⟨rfl, rfl, rfl⟩ := eqK_nil h0
      cases hx with
      | cons _ _ _ _ hx1 hx2 =>
        cases hy with
        | cons _ _ _ _ hy1 hy2 =>
          obtain rfl := hx1.int_inv
          obtain rfl := hy1.int_inv
          rw [Bool.and_true]
          exact run_equalIn_int w m t _ _ a c hu
    · rename_i hu
      cases h
      refine ⟨false, by simp [aggC, hu], fun _ => rfl, fun m hm p q x y b hx hy he => ?_⟩
      obtain ⟨m, rfl⟩ : ∃ m', m = m' + 1 := ⟨m - 1, by omega⟩
      simp only [IsRow, Bool.false_eq_true, if_false] at hx hy
      obtain ⟨a, x1, c, y1, b0, rfl, rfl, h0, rfl⟩ := eqK_none he
      obtain ⟨rfl, rfl, rfl⟩ := eqK_nil h0
      cases hx with
      | cons _ _ _ _ hx1 hx2 =>
        cases hy with
        | cons _ _ _ _ hy1 hy2 =>
          obtain rfl := hx1.bool_inv
          obtain rfl := hy1.bool_inv
          rw [Bool.and_true]
          exact run_equalIn_bool' w m t a c hu
    · rename_i fs hu
      split at h
      case isTrue => cases h
      rename_i hst
      refine ⟨true, by simp [aggC, hu], by simp, fun m hm p q x y b hx hy he => ?_⟩
      obtain ⟨m, rfl⟩ : ∃ m', m = m' + 1 := ⟨m - 1, by omega⟩
      simp only [IsRow, if_true] at hx hy
      obtain ⟨xs, rfl, hxr, hx1⟩ := hx
      obtain ⟨ys, rfl, hyr, hy1⟩ := hy
      have hfo : P.fieldsOf t = fs := by simp [Program.fieldsOf, hu]
      rw [run_equalIn_struct w m t xs ys (by rw [hfo]; exact hu) (by simpa using hst), hfo]
      exact eqFields_ok (fun t ks h => kinds_ok n t ks h) (by omega) hxr hyr hx1 hy1 _ 0 ks b h (by simpa using he)
    · rename_i r el hu
      split at h
      case h_2 => cases h
      rename_i k hk
      split at h
      case isFalse => cases h
      rename_i hc
      cases h
      simp only [Bool.and_eq_true, beq_iff_eq, decide_eq_true_eq] at hc
      refine ⟨true, by simp [aggC, hu], by simp, fun m hm p q x y b hx hy he => ?_⟩
      obtain ⟨m, rfl⟩ : ∃ m', m = m' + 1 := ⟨m - 1, by omega⟩
      simp only [IsRow, if_true] at hx hy
      obtain ⟨xs, rfl, hxr, hx1⟩ := hx
      obtain ⟨ys, rfl, hyr, hy1⟩ := hy
      have hsz := hc.1
      simp only [sizeC, Option.map_eq_some_iff] at hsz
      obtain ⟨i, hi, _⟩ := hsz
      rw [run_equalIn_array w m xs ys hu hi, List.range_eq_range']
      exact eqItems_ok (kinds_ok n el k hk) hc.1 hc.2 (by omega) hxr hyr hx1 hy1 r 0 b (by simpa using he)
    · cases h
end

section ops
variable {P : Program} {CR : CRel} {base fb : Nat} {V : List Nat} {g : G} {σ σ' : Stack} {w : World} {B : Nat → Nat} {e : Env} {tmps : Array Value} {df : List Deferred}
  {d : D}

theorem row_rel {ag : Bool} {d : D} {c : Value} {p : List D} (h : RelV g d c) (hr : d.row ag = some p) : IsRow g ag p c := by
  have h0 := h
  cases ag <;> cases d <;> simp only [D.row, D.cells, Option.some.injEq, reduceCtorEq] at hr
  all_goals first
    | (subst hr; exact .cons _ _ _ _ h0 .nil)
    | (subst hr; cases h with
        | agg _ cs h1 h2 => exact ⟨cs, rfl, h1, h2⟩)

theorem s_eqv (hf : Fr fb V g w B e tmps) (hi : Inv CR base g σ w) {x y : Operand} {X Y : Opd} {t u : TypeId} {ks : List (Option IntKind)} {ag neg : Bool} (hx : opdC x = some X) (hy : opdC y = some Y) (hk : kindsC P 20 t = some ks)
    (hag : aggC P t = some ag) (hguard : P.eqGuardType P.depth t = false)
    (h : sop e σ (.eqv ag ks neg X Y) = some (d, σ')) (o : Oper) (ho : o.op = .binOp (if neg then .neq else .eql) t x y u) : Does P CR base g w B e (Act.mk tmps df).eval o d σ' := by
  simp only [sop] at h
  split at h
  case h_2 => cases h
  rename_i p q hp hq
  simp only [Option.map_eq_some_iff] at h
  obtain ⟨b, hb, h⟩ := h
  cases h
  have hrx := row_rel (hf.opd (df := df) hx) hp
  have hry := row_rel (hf.opd (df := df) hy) hq
  obtain ⟨ag', hag', _, hEq⟩ := kinds_ok (P := P) (g := g) (w := w) 20 t ks hk
  rw [hag] at hag'; cases hag'
  have hrun := hEq 10000 (by omega) p q _ _ b hrx hry hb
  refine .pure hi (c := .bool (if neg then !b else b)) ?_ (RelT.of (.bool _))
  have hmain : ∀ (bo : BinOp), bo = (if neg then .neq else .eql) → (eqGuard bo t x y ((Act.mk tmps df).eval x) ((Act.mk tmps df).eval y)).run P w = .ok () w ∧
      (binOp bo t ((Act.mk tmps df).eval x) ((Act.mk tmps df).eval y)).run P w = .ok (.bool (if neg then !b else b)) w := by
    intro bo hbo
    cases ag with
    | true =>
      simp only [IsRow, if_true] at hrx hry
      obtain ⟨xs, ex, _⟩ := hrx
      obtain ⟨ys, ey, _⟩ := hry
      rw [ex, ey] at hrun ⊢
      refine ⟨run_eqGuard_agg w bo t x y xs ys hguard, ?_⟩
      cases neg
      · simp only [Bool.false_eq_true, if_false] at hbo ⊢; subst hbo
        rw [run_eql_struct, hrun]; rfl
      · simp only [if_true] at hbo ⊢; subst hbo
        rw [run_neq_struct, hrun]; rfl
    | false =>
      simp only [IsRow, Bool.false_eq_true, if_false] at hrx hry
      -- one cell: a number or a bool
      have hl := eqK_len _ _ _ _ hb
      have hp1 := hrx.length
      simp only [List.length_cons, List.length_nil] at hp1
      match ks, hb, hl with
      | [], _, hl => exact absurd (hl.1.symm.trans hp1) (by simp)
      | some k :: ks', hb, hl =>
        obtain ⟨a, x1, c, y1, b0, rfl, rfl, h0, rfl⟩ := eqK_some hb
        cases hrx with
        | cons _ _ _ _ hx1 hx2 =>
          cases hry with
          | cons _ _ _ _ hy1 hy2 =>
            cases hx2; cases hy2
            have ex := hx1.int_inv
            have ey := hy1.int_inv
            rw [ex, ey]
            have hks : ks' = [] := by simpa using hl.1.symm
            subst hks
            obtain ⟨_, _, rfl⟩ := eqK_nil h0
            cases neg <;> simp only [Bool.false_eq_true, if_false, if_true] at hbo ⊢ <;> subst hbo <;> simp [eqGuard, binOp, Op.intCmp, bne]
      | none :: ks', hb, hl =>
        obtain ⟨a, x1, c, y1, b0, rfl, rfl, h0, rfl⟩ := eqK_none hb
        cases hrx with
        | cons _ _ _ _ hx1 hx2 =>
          cases hry with
          | cons _ _ _ _ hy1 hy2 =>
            have ex := hx1.bool_inv
            have ey := hy1.bool_inv
            rw [ex, ey] at hrun ⊢
            cases neg <;> simp only [Bool.false_eq_true, if_false, if_true] at hbo ⊢ <;> subst hbo
            · refine ⟨by simp [eqGuard], ?_⟩
              have : ∀ (u v : Bool), binOp .eql t (.bool u) (.bool v) = (do pure (.bool (← Op.equal t (.bool u) (.bool v)))) := fun _ _ => rfl
              rw [this]
              simp only [Sem.run_bind, Op.equal, Op.maxDepth]
              rw [hrun]; simp
            · refine ⟨by simp [eqGuard], ?_⟩
              have : ∀ (u v : Bool), binOp .neq t (.bool u) (.bool v) = (do pure (.bool (!(← Op.equal t (.bool u) (.bool v))))) := fun _ _ => rfl
              rw [this]
              simp only [Sem.run_bind, Op.equal, Op.maxDepth]
              rw [hrun]; simp
  obtain ⟨m1, m2⟩ := hmain _ rfl
  simp only [execOp, ho, Sem.run_bind, m1, m2, Result.andThen_ok, Sem.run_pure]

end ops
end Go.Abs
