import Derived.Test.YtfgljaglidhjiaaGreatDoorBase0
import GoSem.Core.Program
import GoSem.Core.Layout
import Derived.Laws.Build
import Derived.Test.YtfgljaglidhjiaaGreatDoorBase1
set_option linter.all false
namespace Go.Abs
open Go
structure uD where
 live:List (Nat×List Nat)
 amD:List (Nat×List Nat)
 bw:List Nat
 agD:List Nat
 eD:List Nat
 nb:List (Nat×List (Nat×Nat))
 kp:List Nat
 fz:List (Nat×List Nat)
 re:List Nat
 sx:List (Nat×Option (List Nat))
 fY:List (Nat×Option Nat):=[]
def look{α:Type}(n:Nat)(d:α):List (Nat×α)→α
 |[]=>d
 |(k,v)::r=>if k=n then v else look n d r
def ahi:Value→Option D
 |.bool b=>some (.bool b)
 |.int k n=>some (.int k n)
 |.string s=>some (.str s.data.toList)
 |.pointer none=>some .xw
 |.slice none 0 0=>some .aG
 |.nilFunc=>some .iX
 |.nilIface=>some .pr
 |.map none=>some .undef
 |_=>none
def EL:List Value→Option (List D)
 |[]=>some []
 |v::vs=>match ahi v,EL vs with
  |some d,some ds=>some (d::ds)
  |_,_=>none
def JE:Value→Option D
 |.agg cs=>(EL cs.toList).map .agg
 |v=>ahi v
def bE:Operand→Option bK
 |.tmp t=>some (.t t)
 |.const v=>(JE v).map .c
 |.func f=>some (.c (.fn f [] []))
 |.global _=>none
def wv:List Operand→Option (List bK)
 |[]=>some []
 |x::xs=>match bE x,wv xs with
  |some y,some ys=>some (y::ys)
  |_,_=>none
def xz:Option Operand→Option (Option bK)
 |none=>some none
 |some x=>(bE x).map some
def dt(P:Program)(t:TypeId):Option Nat:=(P.info? t).map (·.size)
def uT(P:Program)(t:TypeId):Option Bool :=
 match P.underlying t with
 |some (.struct _) | some (.array _ _)=>some true
 |some _=>some false
 |none=>none
def rZ(P:Program)(t:TypeId):Option (List D) :=
 match P.info? t with
 |some i=>match i.zero with
  |some z=>EL z.cells.toList
  |none=>none
 |none=>none
def Ag:Operand→Bool
 |.const (.slice none 0 0)=>true
 |_=>false
def uq(place:Nat→Option (Nat×Nat)):List (Nat×Operand)→Option (List (Nat×Nat×bK))
 |[]=>some []
 |(i,x)::r=>match place i,bE x,uq place r with
  |some (o,s),some y,some r'=>some ((o,s,y)::r')
  |_,_,_=>none
def Ac(P:Program)(fs:Array Field)(i:Nat):Option (Nat×Nat) :=
 match fs[i]? with
 |some f=>(dt P f.type).map fun s=>(f.offset,s)
 |none=>none
def mO(P:Program):Nat→TypeId→Option (List (Option IntKind))
 |0,_=>none
 |d+1,t =>
  match P.underlying t with
  |some (.int k)=>some [some k]
  |some .bool=>some [none]
  |some (.struct fs)=>if P.stoodInHeld t then none else kindsF P (mO P d) 0 fs.toList
  |some (.array n e)=>match mO P d e with
   |some ks=>if dt P e == some ks.length && decide (0<ks.length)then some ((List.range n).flatMap fun _=>ks)else none
   |none=>none
  |_=>none
where
 kindsF (P:Program) (f:TypeId→Option (List (Option IntKind))) (o:Nat):List Field→Option (List (Option IntKind))
  |[]=>some []
  |x::r=>match f x.type with
   |some ks=>if x.name ≠ "_" ∧ x.offset=o∧dt P x.type=some ks.length∧0<ks.length then(kindsF P f (o+ks.length) r).map (ks ++ ·)else none
   |none=>none
def zvC(P:Program)(t:TypeId):Option D :=
 match P.info? t with
 |some i=>match i.zero with
  |some z=>JE z
  |none=>none
 |none=>none
def Hq(P:Program)(t:TypeId):Option Ky :=
 match P.underlying t with
 |some .string=>some none
 |some (.int k)=>some (some (false,[some k]))
 |some (.struct fs) =>
  if fs.toList.all (fun f=>match P.underlying f.type with | some (.int _)=>true | some .bool=>true | _=>false)then
   (mO P 20 t).map fun ks=>some (true,ks)
  else none
 |_=>none
def eqC(P:Program)(b:BinOp)(t:TypeId)(x y:bK):Option K :=
 match mO P 20 t with
 |some ks=>if P.eqGuardType P.depth t then none else
  match b with
  |.eql=>(uT P t).map fun ag => .eqv ag ks false x y
  |.neq=>(uT P t).map fun ag => .eqv ag ks true x y
  |_=>none
 |none=>none
def FM(ops:Array Oper):Nat→Nat→Nat
 |0,t=>t
 |n+1,t =>
  match ops.toList.find? (fun o=>o.dst == some t)with
  |some o=>match o.op with
   |.fieldAddr _ (.tmp x) _=>FM ops n x
   |.indexAddr _ (.tmp x) _=>FM ops n x
   |_=>t
  |none=>t
def afb:Operand→Option Nat
 |.tmp t=>some t
 |_=>none
def isC(ps:Bool)(b:BinOp)(x:bK):Option K :=
 match b with
 |.eql=>some (.Sf ps false x)
 |.neq=>some (.Sf ps true x)
 |_=>none
def aeL:TypeDesc→Bool
 |.slice _=>true
 |.string=>true
 |_=>false
def kC(P:Program)(a:uD)(ops:Array Oper)(key:Nat)(o:Oper):Option K :=
 match o.op with
 |.move x=>(bE x).map .mv
 |.assign x =>
  match Ag x,P.underlying o.type,o.dst with
  |true,some (.slice e),some d=>if a.agD.contains d then(dt P e).map .pI else(bE x).map .mv
  |_,_,_=>(bE x).map .mv
 |.pick c x y=>match bE c,bE x,bE y with
  |some c',some x',some y'=>some (.pick c' x' y')
  |_,_,_=>none
 |.alloc e=>match rZ P e,o.dst with
  |some z,some d=>if a.kp.contains (2000000+key)then(match P.underlying e with
    |some (.struct fs)=>(match fs.toList with
     |[_,f]=>(match P.underlying f.type,z with
      |some (.slice b),[.xw,.aG]=>some (.mp (.lh e b) [])
      |_,_=>none)
     |_=>none)
    |_=>none)else some (if a.eD.contains d then .ek (look key [] a.nb) z else .H6 (look key [] a.nb) z)
  |_,_=>none
 |.box _ x=>match bE x,o.dst with
  |some x',some d=>some (if a.eD.contains d then .EK x' else if a.agD.contains d then(match look key [] a.nb with | [] => .H8 x' | nb => .bxn nb x')else .H7 x')
  |_,_=>none
 |.build t ps =>
  match P.underlying t,rZ P t with
  |some (.struct fs),some z=>if fs.toList.all (fun f=>(dt P f.type).isSome)then(uq (Ac P fs) ps.toList).map (.lh z)else none
  |some (.array _ e),some z=>match dt P e with
   |some w=>(uq (fun i=>some (i*w,w)) ps.toList).map (.lh z)
   |none=>none
  |_,_=>none
 |.buildSlice t n ps =>
  match P.underlying t with
  |some (.slice e) =>
   match dt P e,rZ P e,o.dst with
   |some w,some z,some d =>
    if 0<w∧z.length=w∧n*w≤2^24 then
     (uq (fun i=>some (i*w,w)) ps.toList).map fun p =>
      let zs:=(List.range n).flatMap fun _=>z
      if n=0 && ps.isEmpty && a.kp.contains (1000000+key)then .bse else if a.agD.contains d then .KX n w zs p else .tH n w zs p
    else none
   |_,_,_=>none
  |_=>none
 |.load t x=>match uT P t,dt P t,bE x with
  |some g,some s,some (.t n)=>if(g || s == 1) && decide (0<s)then some (if a.eD.contains (FM ops 8 n)then .Sh (FM ops 8 n) g s n else if a.re.contains (FM ops 8 n)then .Qc g s (.t n)else if a.kp.contains (3000000+key)then .Sg g s (.t n)else .ld g s (.t n))else none
  |_,_,_=>none
 |.store t x y=>match dt P t,bE x,bE y with
  |some s,some (.t n),some y'=>some (if a.eD.contains (FM ops 8 n)then .Er (FM ops 8 n) (look key [] a.nb) s n y' else(match look key none a.sx with | some os => .R5 os s (.t n) y' | none => .st (look key [] a.nb) s (.t n) y'))
  |_,_,_=>none
 |.binOp b t x y _ =>
  match P.underlying t,bE x,bE y with
  |some (.int _),some x',some y'=>some (.bin b x' y')
  |some .bool,some x',some y'=>eqC P b t x' y'
  |some (.struct _),some x',some y'=>eqC P b t x' y'
  |some (.array _ _),some x',some y'=>eqC P b t x' y'
  |some .string,some x',some y'=>(match b with | .add=>some (.rj .RW [x',y']) | .eql=>some (.rj (.seq false) [x',y']) | .neq=>some (.rj (.seq true) [x',y']) | _=>none)
  |some (.pointer _),some x',some (.c .xw)=>isC true b x'
  |some (.pointer el),some x',some y'=>if(P.info? el).isSome then(match b with | .eql=>some (.me (.peq false) [x',y']) | .neq=>some (.me (.peq true) [x',y']) | _=>none)else none
  |some (.slice _),some x',some (.c .aG)=>isC false b x'
  |some (.interface _),some x',some (.c .pr)=>(match b,y with | .eql,.const .nilIface=>some (.isi false x') | .neq,.const .nilIface=>some (.isi true x') | _,_=>none)
  |_,_,_=>none
 |.nilCheck x=>(bE x).map .mG
 |.unOp b _ x=>(bE x).map (.un b)
 |.convert s d x =>
  match P.underlying s,P.underlying d,bE x with
  |some (.int _),some (.int k),some x'=>some (.JG k x')
  |some (.slice e),some .string,some x'=>(match P.underlying e,dt P e with | some (.int .u8),some 1=>some (.me .b2s [x']) | _,_=>none)
  |some .string,some (.slice e),some x'=>(match P.underlying e,dt P e with | some (.int .u8),some 1=>some (.me .s2b [x']) | _,_=>none)
  |some (.slice e),some (.slice _),some x'=>if s=d then(match P.underlying e with | some (.int .u8)=>some (.cvz x') | _=>none)else none
  |_,_,_=>none
 |.sliceToArrayPointer t x =>
  match P.underlying t,bE x with
  |some (.array n e),some x'=>(dt P e).map fun w => .me (.s2a n w) [x']
  |_,_=>none
 |.makeFunc (.func f) xs ys=>match wv xs.toList,wv ys.toList with
  |some xs',some ys'=>some (.yq f xs' ys')
  |_,_=>none
 |.makeSlice t x y =>
  match P.underlying t with
  |some (.slice e) =>
   match dt P e,(P.info? e).map (·.bytes),rZ P e,bE x,bE y with
   |some w,some b,some z,some x',some y'=>if 0<w∧0<b then some (.mks w b z x' y')else none
   |_,_,_,_,_=>none
  |_=>none
 |.slice t x lo hi mx =>
  match P.underlying t,bE x,xz lo,xz hi,xz mx with
  |some (.slice e),some x',some lo',some hi',some mx'=>(dt P e).map fun w => .Jc w x' lo' hi' mx'
  |some (.array n e),some x',some lo',some hi',some none=>(dt P e).map fun w => .Ny n w x' lo' hi'
  |some .string,some x',some lo',some hi',some none=>some (.rj (.Ik lo'.isSome hi'.isSome) (x'::(lo'.toList++hi'.toList)))
  |_,_,_,_,_=>none
 |.fieldAddr s x i =>
  match P.underlying s,bE x with
  |some (.struct fs),some x' =>
   match Ac P fs i with
   |some (off,sz)=>if 0<sz then some (.Ia off x')else none
   |none=>none
  |_,_=>none
 |.field s x i =>
  match P.underlying s,bE x with
  |some (.struct fs),some x' =>
   match fs[i]? with
   |some f=>match uT P f.type,dt P f.type with
    |some g,some sz=>if g || sz == 1 then some (.fld g f.offset sz x')else none
    |_,_=>none
   |none=>none
  |_,_=>none
 |.indexAddr t x i =>
  match P.underlying t,bE x,bE i with
  |some (.array n e),some x',some i'=>(dt P e).map fun w => .Bw n w x' i'
  |some (.slice e),some x',some i'=>(dt P e).map fun w => .dT w x' i'
  |_,_,_=>none
 |.index t x i =>
  match P.underlying t,bE x,bE i with
  |some (.array n e),some x',some i'=>match uT P e,dt P e with
   |some g,some w=>if g || w == 1 then some (.JP g n w x' i')else none
   |_,_=>none
  |some .string,some x',some i'=>some (.rj .CB [x',i'])
  |_,_,_=>none
 |.extract x i=>(bE x).map (.ext · i)
 |.call c =>
  match c.callee with
  |.value f=>match bE f,wv c.args.toList with
   |some f',some xs=>some (.call (a.kp.contains key) f' xs)
   |_,_=>none
  |.builtin .len =>
   match c.argTypes.toList,c.args.toList with
   |t::_,x::_=>match P.underlying t,bE x with
    |some (.slice _),some x'=>some (.Ie x')
    |some .string,some x'=>some (.rj .zD [x'])
    |some (.map _ _),some x'=>some (.mp .len [x'])
    |some (.array n _),_=>some (.Nf n)
    |some (.pointer r),_=>(match P.underlying r with | some (.array n _)=>some (.Nf n) | _=>none)
    |_,_=>none
   |_,_=>none
  |.builtin .recover=>some .My
  |.builtin .min=>match c.args.toList with
   |[x,y]=>(match bE x,bE y with | some x',some y'=>some (.mn x' y') | _,_=>none)
   |_=>none
  |.builtin .max=>match c.args.toList with
   |[x,y]=>(match bE x,bE y with | some x',some y'=>some (.mx x' y') | _,_=>none)
   |_=>none
  |.builtin .append =>
   match c.argTypes.toList,c.args.toList with
   |[t,u],[x,y]=>match P.underlying t,P.underlying u,bE x,bE y with
    |some (.slice e),some uu,some x',some y' =>
     if aeL uu=true then(match dt P e,(P.info? e).map (·.bytes),rZ P e with
     |some w,some b,some z=>if 0<w∧0<b∧b≤2^20∧z.length=w then
       some (if Ag x && !(o.dst.any a.agD.contains)then .cpi w b y' else if a.kp.contains (1000000+key) && (afb x).isSome then .ape w b ((afb x).getD 0) y' else if a.kp.contains key then .apz w b x' y' else(match look key none a.sx with | some os => .Q0 os w b x' y' | none => .app w b x' y'))else none
     |_,_,_=>none)else none
    |_,_,_,_=>none
   |_,_=>none
  |_=>none
 |.makeInterface t x=>if P.concrete t=true then(bE x).map (.mki t)else none
 |.typeAssert x _ t ok =>
  match P.underlying t,bE x with
  |some (.interface _),_=>none
  |some _,some x'=>if ok then(zvC P t).map fun z => .tas t (some z) x' else some (.tas t none x')
  |_,_=>none
 |.panic x=>(bE x).map .Mw
 |.makeMap _ none=>some (.mp .make [])
 |.makeMap t (some (.const (.int _ _)))=>(match P.underlying t with | some (.map _ _)=>some (.mp .make []) | _=>none)
 |.range t x =>
  match P.underlying t,bE x with
  |some (.map _ _),some x'=>some (.mp .rng [x'])
  |_,_=>none
 |.entry x=>(match bE x with
  |some x'=>some (.mp .ent [x'])
  |none=>none)
 |.lookup t x i ok =>
  match P.underlying t,bE x,bE i with
  |some (.map kt et),some x',some i'=>(match Hq P kt,zvC P et with
   |some ky,some z=>some (.mp (.get ky z ok) [x',i'])
   |_,_=>none)
  |_,_,_=>none
 |.mapUpdate t m x y =>
  match P.underlying t,bE m,bE x,bE y with
  |some (.map kt _),some m',some x',some y'=>(match Hq P kt with
   |some ky=>some (.mp (.put ky) [m',x',y'])
   |none=>none)
  |_,_,_,_=>none
 |.insert t m x y =>
  match P.underlying t,bE m,bE x,bE y with
  |some (.map kt _),some m',some x',some y'=>(match Hq P kt with
   |some ky=>some (.mp (.put ky) [m',x',y'])
   |none=>none)
  |_,_,_,_=>none
 |_=>none
def K.makes:K→Bool
 |.ek .. => true
 |.EK _=>true
 |_=>false
def K.awN:K→Bool
 |.Er .. => true
 |_=>false
def RQ(P:Program)(a:uD)(n cc:Nat)(ops:Array Oper)(AF:Bool)(i:Nat)(o:Oper):Option Op :=
 match kC P a ops (cc*1000+i) o with
 |some k =>
  match(match o.guard with
   |none=>some none
   |some (j,b)=>match(ops[j]?).bind (·.dst)with
    |some d=>some (some (d,b))
    |none=>none),(match o.dst with | some d=>decide (d<n) | none=>true)with
  |some g,true=>if(match o.dst with | some d => !(a.eD.contains d) || (k.makes && o.guard.isNone) | none => !k.makes) && (!k.awN || o.dst.isNone)then some {dst:=o.dst,Di:=g,AF,k }else none
  |_,_=>none
 |none=>none
def JZ(P:Program)(a:uD)(n cc:Nat)(ops:Array Oper)(tail:Nat):Nat→List Oper→Option (List Op)
 |_,[]=>some []
 |i,o::r=>match RQ P a n cc ops (decide (i<tail) && !(a.kp.contains (cc*1000+i))) i o,JZ P a n cc ops tail (i+1) r with
  |some x,some xs=>some (x::xs)
  |_,_=>none
def Mo.calm:Mo→Bool
 |.get .. => true
 |.len=>true
 |.ent=>true
 |_=>false
def K.calm:K→Bool
 |.st .. => false
 |.R5 .. => false
 |.app .. => false
 |.Q0 .. => false
 |.apz .. => false
 |.cvz _=>false
 |.pI _=>false
 |.H6 .. => false
 |.H8 _=>false
 |.bxn .. => false
 |.KX .. => false
 |.mks .. => false
 |.ek nb _=>nb.isEmpty
 |.Er _ nb _ _ _=>nb.isEmpty
 |.mp o _=>o.calm
 |.Mw _=>false
 |.My=>false
 |_=>true
def K.pure:K→Bool
 |.ld .. => false
 |.Sg .. => false
 |.Ny .. => false
 |.cpi .. => false
 |.ape .. => false
 |.call .. => false
 |.mp .. => false
 |.me .. => false
 |k=>k.calm
def bK.tmps:bK→List Nat
 |.t n=>[n]
 |.c _=>[]
def K.tmps:K→List Nat
 |.mv x=>x.tmps
 |.pI _=>[]
 |.pick c a b=>c.tmps++a.tmps++b.tmps
 |.H6 .. => []
 |.ek .. => []
 |.H7 x=>x.tmps
 |.H8 x=>x.tmps
 |.bxn _ x=>x.tmps
 |.EK x=>x.tmps
 |.Sh v _ _ a=>[v,a]
 |.Er v _ _ a x=>[v,a]++x.tmps
 |.lh _ ps=>ps.flatMap fun p=>p.2.2.tmps
 |.tH _ _ _ ps=>ps.flatMap fun p=>p.2.2.tmps
 |.KX _ _ _ ps=>ps.flatMap fun p=>p.2.2.tmps
 |.ld _ _ a=>a.tmps
 |.Qc _ _ a=>a.tmps
 |.Sg _ _ a=>a.tmps
 |.Sf _ _ x=>x.tmps
 |.mG x=>x.tmps
 |.st _ _ a x=>a.tmps++x.tmps
 |.R5 os _ a x=>a.tmps++x.tmps++os
 |.bin _ x y=>x.tmps++y.tmps
 |.eqv _ _ _ x y=>x.tmps++y.tmps
 |.un _ x=>x.tmps
 |.JG _ x=>x.tmps
 |.yq _ xs ys=>xs.flatMap bK.tmps++ys.flatMap bK.tmps
 |.mks _ _ _ l c=>l.tmps++c.tmps
 |.Jc _ x lo hi m=>x.tmps++(lo.map bK.tmps).getD []++(hi.map bK.tmps).getD []++(m.map bK.tmps).getD []
 |.Ny _ _ x lo hi=>x.tmps++(lo.map bK.tmps).getD []++(hi.map bK.tmps).getD []
 |.Ia _ x=>x.tmps
 |.fld _ _ _ x=>x.tmps
 |.Bw _ _ x i=>x.tmps++i.tmps
 |.dT _ x i=>x.tmps++i.tmps
 |.JP _ _ _ x i=>x.tmps++i.tmps
 |.Ie x=>x.tmps
 |.Nf _=>[]
 |.mn x y=>x.tmps++y.tmps
 |.mx x y=>x.tmps++y.tmps
 |.app _ _ s x=>s.tmps++x.tmps
 |.Q0 os _ _ s x=>s.tmps++x.tmps++os
 |.apz _ _ s x=>s.tmps++x.tmps
 |.cpi _ _ x=>x.tmps
 |.cvz x=>x.tmps
 |.bse=>[]
 |.ape _ _ v x=>v::x.tmps
 |.ext x _=>x.tmps
 |.rj _ xs=>xs.flatMap bK.tmps
 |.mp _ xs=>xs.flatMap bK.tmps
 |.me _ xs=>xs.flatMap bK.tmps
 |.mki _ x=>x.tmps
 |.tas _ _ x=>x.tmps
 |.isi _ x=>x.tmps
 |.Mw x=>x.tmps
 |.My=>[]
 |.call _ f xs=>f.tmps++xs.flatMap bK.tmps
def Op.En(o:Op):List Nat:=(match o.Di with | some (g,_)=>[g] | none=>[])++o.k.tmps
def je:List Oper→List Nat→List Nat
 |[],acc=>acc
 |o::r,acc=>je r (acc++[o.after.toList.foldl (fun s e=>if Region.binds .any e then s ||| 2^e.on ||| acc.getD e.on 0 else s) 0])
def Av(bs:List Nat):Nat :=
 go bs.length
where
 go:Nat→Nat
  |0=>0
  |n+1=>if bs.getD n 0=2^n-1 then go n else n+1
def Op.defs(o:Op):List Nat:=o.dst.toList++(match o.k with | .Er v _ _ _ _=>[v] | _=>[])
def Op.ahv(o p:Op):Bool :=
 o.defs.any (fun d=>p.defs.contains d || p.En.contains d) || o.En.any (fun d=>p.defs.contains d)
def Op.still(op:Op):Bool:=op.k.calm && op.AF
def Op.far(o p:Op):Bool :=
 o.Di.isNone && p.Di.isNone &&
 match o.k,p.k with
 |.R5 os _ _ _,.ld _ _ (.t m)=>os.contains m
 |.ld _ _ (.t m),.R5 os _ _ _=>os.contains m
 |.R5 os _ _ _,.R5 _ _ (.t m) _=>os.contains m
 |.Q0 os _ _ _ _,.ld _ _ (.t m)=>os.contains m
 |.ld _ _ (.t _),.H6 [] _=>true
 |.Q0 ..,.Sg _ _ (.t _)=>true
 |_,_=>false
def Op.adr(o p:Op):Bool :=
 match o,p with
 |⟨none,none,_,.Er v [] _ a x⟩,⟨some d,none,_,.Ia _ (.t m)⟩=>decide (m=v∧d≠v∧d≠a∧d ∉ x.tmps)
 |_,_=>false
def Op.free(o p:Op):Bool:=o.adr p || (!(o.ahv p) && (o.still && p.still || o.k.pure || p.k.pure || o.far p))
def G3(bs:List Nat):Nat→List Op→Bool
 |_,[]=>true
 |i,o::r=>after i (i+1) o r && G3 bs (i+1) r
where
 after (i:Nat):Nat→Op→List Op→Bool
  |_,_,[]=>true
  |j,o,p::r=>(o.free p || (bs.getD j 0).testBit i) && after i (j+1) o r
def DR:Nat→List Oper→Bool
 |_,[]=>true
 |i,o::r=>(o.after.toList.all fun e => !Region.binds .any e || decide (e.on<i)) && DR (i+1) r
def G7(live:List Nat):Option Nat→List Op→cH
 |some j,xs=>match xs.drop j with
  |x::r => .iO live (xs.take j) x r
  |[] => .cc live xs
 |none,xs => .cc live xs
def Nt(P:Program)(a:uD)(n:Nat)(id:Nat)(ops:Array Oper)(draw:Bool):Option cH :=
  if draw then
   let bs:=je ops.toList []
   let tail:=Av bs
   match JZ P a n id ops tail 0 ops.toList with
   |some xs=>if G3 bs 0 (xs.take tail) && DR 0 ops.toList && xs.all (fun x=>x.k != .My)then some (G7 (look id [] a.live) ((look id none a.fY).filter fun j=>decide (tail≤j)) xs)else none
   |none=>none
  else(JZ P a n id ops 0 0 ops.toList).map (G7 (look id [] a.live) (look id none a.fY))
def yC(c:cH):List Nat→cH
 |[]=>c
 |vs => .seq (.cr vs) c
def Br:cH:=.cc [] [⟨none,none,false,.Sf false false (.c .undef)⟩]
def JK:Code→Option (bK×List bK)
 |.region _ ops false =>
  match ops.toList with
  |[o]=>(match o.op,o.dst,o.guard with
   |.defer c,none,none=>(match c.callee with
    |.value f=>(match bE f,wv c.args.toList with
     |some f',some xs=>some (f',xs)
     |_,_=>none)
    |_=>none)
   |_,_,_=>none)
  |_=>none
 |_=>none
def Rc(P:Program)(a:uD)(n:Nat):Code→Option (cH×bK×List bK)
 |.region id ops false =>
  match ops.toList with
  |[m,o]=>(match o.op,o.dst,o.guard,m.dst with
   |.defer c,none,none,some t=>(match c.callee with
    |.value f=>(match RQ P a n id ops false 0 m,bE f,wv c.args.toList with
     |some op,some f',some xs=>if op.k=.My then none else some (.cc (t::(xs.flatMap bK.tmps++look id [] a.live)) [op],f',xs)
     |_,_,_=>none)
    |_=>none)
   |_,_,_,_=>none)
  |_=>none
 |_=>none
def Ni(a:uD)(n:Nat):Code→Option (Nat×Nat×Nat)
 |.loop (.seq (.region _ ops false) _) =>
  match ops.toList with
  |[o,p]=>(match o.op,o.dst,o.guard,p.op,p.dst,p.guard with
   |.next (.tmp it) false,some nx,none,.extract (.tmp nx') 0,some ok,none =>
    if nx'=nx∧nx<n∧ok<n∧nx≠ok∧nx ∉ a.eD∧ok ∉ a.eD then some (it,nx,ok)else none
   |_,_,_,_,_,_=>none)
  |_=>none
 |_=>none
def af7(a:uD)(n id:Nat)(x:Code)(x':cH):cH :=
 match Ni a n x,x' with
 |some (it,nx,ok),.loop live _ (.seq _ c) => .ja live (.t it) nx ok id c .dJ
 |_,x' => .bO id x'
def RX(P:Program)(a:uD)(n:Nat)(x:Code)(x' y':cH):cH :=
 match JK x with
 |some (f,xs) => .Rb f xs y'
 |none =>
  match Rc P a n x with
  |some (c,f,xs) => .seq c (.Rb f xs y')
  |none =>
  match x,x' with
  |.seq _ (.block _ _),.seq p' (.ja live it nx ok b c .dJ) => .seq p' (.ja live it nx ok b c y')
  |_,_ => .seq x' y'
def HG(c:cH):cH:=match jL c with | some _=>Br | none => .seq .dJ c
def bW(P:Program)(a:uD)(n:Nat)(bO:Nat):Code→Option cH
 |.skip=>some .dJ
 |.region id ops draw=>match Nt P a n id ops draw with
  |some c=>some (yC c (look id [] a.fz))
  |none=>some Br
 |.seq x y=>match bW P a n bO x,bW P a n bO y with
  |some x',some y'=>some (RX P a n x x' y')
  |_,_=>none
 |.cond c x y=>match bE c,bW P a n bO x,bW P a n bO y with
  |some c',some x',some y'=>some (.ite c' x' y')
  |_,_,_=>none
 |.block id x=>(bW P a n id x).map (af7 a n id x)
 |.loop x=>(bW P a n bO x).map (.loop (look bO [] a.amD) (a.bw.contains bO))
 |.rangeFunc f ps x y=>match bE f,bW P a n bO x,bW P a n bO y with
  |some f',some x',some y'=>if ps.toList.all (fun t=>decide (t<n) && !(a.eD.contains t))then some (.Kb (look bO [] a.amD) f' ps.toList x' y')else none
  |_,_,_=>none
 |.exit id=>some (.exit id)
 |.ret=>some .ret
 |.scope x=>(bW P a n bO x).map HG
 |.label _=>some .dJ
 |_=>some Br
def agR(P:Program)(a:uD):ResultVar→Option Dz
 |.tmp t=>some (.t t)
 |.cell x t=>match uT P t,dt P t with
  |some g,some s=>if(g || s == 1) && decide (0<s)then some (if a.eD.contains x then .v x g s else .c x g s)else none
  |_,_=>none
def FK(P:Program)(a:uD):List ResultVar→Option (List Dz)
 |[]=>some []
 |r::rs=>match agR P a r,FK P a rs with
  |some x,some xs=>some (x::xs)
  |_,_=>none
def fnC(P:Program)(a:uD)(f:Func):Option Fn :=
 match f.body with
 |some c=>match bW P a f.ntmps 0 c,FK P a f.results.toList with
  |some c',some rs=>if f.params.size+f.nfree≤f.ntmps then some {Nl:=f.params.size+f.nfree,res:=rs,body:=c' }else none
  |_,_=>none
 |none=>none
def Rd(w:World)(b o:Nat)(vs:List Value):Prop:=∀(j:Nat) x,vs[j]?=some x→w.cell? ⟨b,o+j,none⟩=some x
theorem Rd.take{w:World}{b o:Nat}{vs:List Value}(h:Rd w b o vs)(n:Nat):Rd w b o (vs.take n):=fun j x e=>h j x (by
 rw[ej]at e;split at e<;>simp_all)
theorem Rd.drop{w:World}{b o:Nat}{vs:List Value}(h:Rd w b o vs)(n:Nat):Rd w b (o+n) (vs.drop n):=fun j x e=>by
 have:=h (n+j) x (by rw[ei]at e;exact e);rw[show o+n+j=o+(n+j)from by omega];exact this
theorem add_eq(b o n:Nat):Addr.add ⟨b,o,none⟩ n=⟨b,o+n,none⟩:=by
 unfold Addr.add;split
 ·subst_vars;rfl
 ·rfl
section types
variable {P:Program} {t:TypeId}
theorem run_typeInfo{i:TypeInfo}(h:P.info? t=some i)(w:World):(typeInfo t).run P w=.ok i w:=by
 simp[typeInfo,h]
theorem run_sizeOf{s:Nat}(h:dt P t=some s)(w:World):(sizeOf t).run P w=.ok s w:=by
 simp only[dt,ad]at h;obtain⟨i,hi,rfl⟩:=h;simp[sizeOf,run_typeInfo hi]
theorem bq{d:TypeDesc}(h:P.underlying t=some d)(w:World):(underlying t).run P w=.ok d w:=by
 simp[underlying,h]
theorem Cd{b:Bool}(h:uT P t=some b)(w:World):(isAgg t).run P w=.ok b w:=by
 unfold uT at h;cases hu:P.underlying t with
 |none=>simp[hu]at h
 |some d =>
  rw[hu]at h;simp only[isAgg,Sem.run_bind,bq hu,Result.andThen_ok];cases d<;>simp_all
theorem ig{z:Value}{i:TypeInfo}(h:P.info? t=some i)(hz:i.zero=some z)(w:World):(zeroValue t).run P w=.ok z w:=by
 simp[zeroValue,run_typeInfo h,hz]
end types
theorem Ms(g:G){v:Value}{d:D}(h:ahi v=some d):bI g d v∧v.oneCell'=true:=by
 unfold ahi at h;split at h<;>first | (cases h;exact⟨by constructor,rfl⟩) | cases h
theorem G4(g:G){vs:List Value}{ds:List D}(h:EL vs=some ds):bC g ds vs∧∀x∈vs,x.oneCell'=true:=by
 induction vs generalizing ds with
 |nil=>simp only[EL,ae]at h;subst h;exact⟨.nil,by simp⟩
 |cons v vs ih =>
  simp only[EL]at h;split at h
  ·rename_i d ds' h1 h2;cases h;obtain⟨h3,h4⟩:=ih h2;obtain⟨h5,h6⟩:=Ms g h1;exact⟨.cons _ _ _ _ h5 h3,by simp only[ba];rintro x (rfl | hx);exact h6;exact h4 x hx⟩
  ·cases h
theorem G6(g:G){v:Value}{d:D}(h:JE v=some d):bI g d v:=by
 unfold JE at h;split at h
 ·rename_i cs;simp only[ad]at h;obtain⟨ds,h1,rfl⟩:=h;obtain⟨h2,h3⟩:=G4 g h1;exact .agg ds cs h2 h3
 ·exact(Ms g h).1
theorem tB{P:Program}{t:TypeId}(g:G){z:List D}(h:rZ P t=some z):∃i v,P.info? t=some i∧i.zero=some v∧bC g z v.cells.toList∧∀x∈v.cells.toList,x.oneCell'=true:=by
 unfold rZ at h;split at h
 ·rename_i i hi;split at h
  ·rename_i v hv;obtain⟨h2,h3⟩:=G4 g h;exact⟨i,v,hi,hv,h2,h3⟩
  ·cases h
 ·cases h
theorem BI{P:Program}{t:TypeId}{w:World}{b o sz:Nat}{ag:Bool}{vs:List Value}(hag:uT P t=some ag)(hsz:dt P t=some sz)(hone:(ag || sz == 1)=true)
  (hr:Rd w b o vs) (hlen:sz≤vs.length):
  ∃v,(loadVar t ⟨b,o,none⟩).run P w=.ok v w∧(if ag then v=.agg (vs.take sz).toArray else ∃x r,vs=x::r∧v=x):=by
 cases ag with
 |true =>
  have h1:(loadCells ⟨b,o,none⟩ sz).run P w=.ok (vs.take sz).toArray w:=by
   have:=run_loadCells_list (P:=P) w ⟨b,o,none⟩ (vs.take sz) (fun j v e=>by rw[add_eq];exact hr.take sz j v e);rwa[lO,Nat.min_eq_left hlen]at this
  exact⟨_,by simp[loadVar,Cd hag,run_sizeOf hsz,h1],rfl⟩
 |false =>
  simp only[Bool.false_or,beq_iff_eq]at hone;subst hone;cases vs with
  |nil=>simp at hlen
  |cons x r =>
   have:=hr 0 x rfl;exact⟨x,by simp only[Nat.add_zero]at this;simp[loadVar,Cd hag,this],x,r,rfl,rfl⟩
theorem xE{P:Program}{b:Nat}{el:TypeId}:∀(ps:List Value) (w:World) (o i:Nat) (c:Array Value),(∀x∈ps,x.oneCell'=true) →
  w.heap[b]?=some (.cells c el (0,0))→o+i+ps.length≤c.size →
  ∃w' c',(storeCells ⟨b,o,none⟩ ps i).run P w=.ok () w'∧w'.heap[b]?=some (.cells c' el (0,0))∧c'.size=c.size ∧
   (∀j,c'[j]?=if o+i≤j∧j<o+i+ps.length then ps[j-(o+i)]? else c[j]?) ∧
   (∀x,x≠b→w'.heap[x]?=w.heap[x]?)∧w'.heap.size=w.heap.size∧w'.os=w.os∧w'.tape=w.tape∧w'.output=w.output
 |[],w,o,i,c,_,hb,_=>⟨w,c,by simp[storeCells],hb,rfl,fun j=>by rw[if_neg (by simp only[bF];omega)],fun _ _=>rfl,rfl,rfl,rfl,rfl⟩
 |p::ps,w,o,i,c,h1,hb,hl=>by
  simp only[aJ]at hl;have hp:=h1 p (by simp);have hcell:w.cell? ⟨b,o+i,none⟩=some (c[o+i]'(by omega)):=by
   simp only[World.cell?,hb];simp
  have hfz:w.frozen? ⟨b,o+i,none⟩=false:=by simp[World.frozen?,hb]
  have hb1:(w.setCell ⟨b,o+i,none⟩ p).heap[b]?=some (.cells (c.setIfInBounds (o+i) p) el (0,0)):=by
   simp[World.setCell,eQ,hb]
  obtain⟨w',c',hrun,hb',hs,hc,ho,hsz,e1,e2,e3⟩:=xE ps (w.setCell ⟨b,o+i,none⟩ p) o (i+1) (c.setIfInBounds (o+i) p) (fun x hx=>h1 x (by simp[hx])) hb1 (by simp;omega);refine⟨w',c',?_,hb',by simpa using hs,?_,?_,by simpa using hsz,e1,e2,e3⟩
  ·simp only[storeCells,Sem.run_bind,add_eq,run_store P w _ p .plain hp,hcell,hfz];simpa using hrun
  ·intro j;rw[hc j];by_cases hj:j=o+i
   ·subst hj;rw[if_neg (by omega),if_pos (by simp)];rw[Array.getElem?_setIfInBounds_self_of_lt (by omega)];simp
   ·by_cases hj2:o+(i+1)≤j∧j<o+(i+1)+ps.length
    ·rw[if_pos hj2,if_pos (by simp;omega)];rw[show j-(o+i)=(j-(o+(i+1)))+1 from by omega];simp
    ·rw[if_neg hj2,if_neg (by simp;omega)];rw[Array.getElem?_setIfInBounds_ne (by omega)]
  ·intro x hx;rw[ho x hx];simp only[World.setCell,eQ];rw[if_neg (by simpa using fun e=>hx e.symm)]
theorem Eg{P:Program}{t:TypeId}{w:World}{b o sz:Nat}{el:TypeId}{c:Array Value}{v:Value}(hsz:dt P t=some sz)(hv:v.cells.size=sz)
  (h1:∀x∈v.cells.toList,x.oneCell'=true) (hb:w.heap[b]?=some (.cells c el (0,0))) (hl:o+sz≤c.size):
  ∃w' c',(storeVar t ⟨b,o,none⟩ v).run P w=.ok () w'∧w'.heap[b]?=some (.cells c' el (0,0))∧c'.size=c.size ∧
   (∀j,c'[j]?=if o≤j∧j<o+sz then v.cells.toList[j-o]? else c[j]?) ∧
   (∀x,x≠b→w'.heap[x]?=w.heap[x]?)∧w'.heap.size=w.heap.size∧w'.os=w.os∧w'.tape=w.tape∧w'.output=w.output:=by
 obtain⟨w',c',hrun,rest⟩:=xE (P:=P) (b:=b) (el:=el) v.cells.toList w o 0 c h1 hb (by simp[hv];omega);refine⟨w',c',?_,?_⟩
 ·simp only[storeVar,Sem.run_bind,run_sizeOf hsz,Result.andThen_ok,hv];simpa using hrun
 ·simpa[hv]using rest
end Go.Abs
