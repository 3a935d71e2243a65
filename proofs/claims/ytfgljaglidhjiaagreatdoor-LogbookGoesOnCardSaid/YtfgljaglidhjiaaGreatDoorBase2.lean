import Derived.Test.YtfgljaglidhjiaaGreatDoorBase0
import GoSem.Core.Program
import GoSem.Core.Layout
import Derived.Laws.Build
import Derived.Test.YtfgljaglidhjiaaGreatDoorBase1
set_option linter.all false
namespace Go.Abs
open Go
structure ub where
 live:List (Nat×List Nat)
 amE:List (Nat×List Nat)
 bj:List Nat
 ahc:List Nat
 ed:List Nat
 nb:List (Nat×List (Nat×Nat))
 kp:List Nat
 fz:List (Nat×List Nat)
 rh:List Nat
 sx:List (Nat×Option (List Nat))
 gf:List (Nat×Option Nat):=[]
def look{α:Type}(n:Nat)(d:α):List (Nat×α)→α
 |[]=>d
 |(k,v)::r=>if k=n then v else look n d r
def ahR:Value→Option D
 |.bool b=>some (.bool b)
 |.int k n=>some (.int k n)
 |.string s=>some (.str s.data.toList)
 |.pointer none=>some .xF
 |.slice none 0 0=>some .aK
 |.nilFunc=>some .iW
 |.nilIface=>some .pN
 |.map none=>some .undef
 |_=>none
def E3:List Value→Option (List D)
 |[]=>some []
 |v::vs=>match ahR v,E3 vs with
  |some d,some ds=>some (d::ds)
  |_,_=>none
def J4:Value→Option D
 |.agg cs=>(E3 cs.toList).map .agg
 |v=>ahR v
def bD:Operand→Option bG
 |.tmp t=>some (.t t)
 |.const v=>(J4 v).map .c
 |.func f=>some (.c (.fn f [] []))
 |.global _=>none
def wH:List Operand→Option (List bG)
 |[]=>some []
 |x::xs=>match bD x,wH xs with
  |some y,some ys=>some (y::ys)
  |_,_=>none
def xI:Option Operand→Option (Option bG)
 |none=>some none
 |some x=>(bD x).map some
def dC(P:Program)(t:TypeId):Option Nat:=(P.info? t).map (·.size)
def ve(P:Program)(t:TypeId):Option Bool :=
 match P.underlying t with
 |some (.struct _) | some (.array _ _)=>some true
 |some _=>some false
 |none=>none
def sC(P:Program)(t:TypeId):Option (List D) :=
 match P.info? t with
 |some i=>match i.zero with
  |some z=>E3 z.cells.toList
  |none=>none
 |none=>none
def Ai:Operand→Bool
 |.const (.slice none 0 0)=>true
 |_=>false
def uL(place:Nat→Option (Nat×Nat)):List (Nat×Operand)→Option (List (Nat×Nat×bG))
 |[]=>some []
 |(i,x)::r=>match place i,bD x,uL place r with
  |some (o,s),some y,some r'=>some ((o,s,y)::r')
  |_,_,_=>none
def Ae(P:Program)(fs:Array Field)(i:Nat):Option (Nat×Nat) :=
 match fs[i]? with
 |some f=>(dC P f.type).map fun s=>(f.offset,s)
 |none=>none
def na(P:Program):Nat→TypeId→Option (List (Option IntKind))
 |0,_=>none
 |d+1,t =>
  match P.underlying t with
  |some (.int k)=>some [some k]
  |some .bool=>some [none]
  |some (.struct fs)=>if P.stoodInHeld t then none else kindsF P (na P d) 0 fs.toList
  |some (.array n e)=>match na P d e with
   |some ks=>if dC P e == some ks.length && decide (0<ks.length)then some ((List.range n).flatMap fun _=>ks)else none
   |none=>none
  |_=>none
where
 kindsF (P:Program) (f:TypeId→Option (List (Option IntKind))) (o:Nat):List Field→Option (List (Option IntKind))
  |[]=>some []
  |x::r=>match f x.type with
   |some ks=>if x.name ≠ "_" ∧ x.offset=o∧dC P x.type=some ks.length∧0<ks.length then(kindsF P f (o+ks.length) r).map (ks ++ ·)else none
   |none=>none
def zvC(P:Program)(t:TypeId):Option D :=
 match P.info? t with
 |some i=>match i.zero with
  |some z=>J4 z
  |none=>none
 |none=>none
def HJ(P:Program)(t:TypeId):Option Ky :=
 match P.underlying t with
 |some .string=>some none
 |some (.int k)=>some (some (false,[some k]))
 |some (.struct fs) =>
  if fs.toList.all (fun f=>match P.underlying f.type with | some (.int _)=>true | some .bool=>true | _=>false)then
   (na P 20 t).map fun ks=>some (true,ks)
  else none
 |_=>none
def eqC(P:Program)(b:BinOp)(t:TypeId)(x y:bG):Option K :=
 match na P 20 t with
 |some ks=>if P.eqGuardType P.depth t then none else
  match b with
  |.eql=>(ve P t).map fun ag => .eqv ag ks false x y
  |.neq=>(ve P t).map fun ag => .eqv ag ks true x y
  |_=>none
 |none=>none
def F5(ops:Array Oper):Nat→Nat→Nat
 |0,t=>t
 |n+1,t =>
  match ops.toList.find? (fun o=>o.dst == some t)with
  |some o=>match o.op with
   |.fieldAddr _ (.tmp x) _=>F5 ops n x
   |.indexAddr _ (.tmp x) _=>F5 ops n x
   |_=>t
  |none=>t
def afD:Operand→Option Nat
 |.tmp t=>some t
 |_=>none
def isC(ps:Bool)(b:BinOp)(x:bG):Option K :=
 match b with
 |.eql=>some (.SX ps false x)
 |.neq=>some (.SX ps true x)
 |_=>none
def afe:TypeDesc→Bool
 |.slice _=>true
 |.string=>true
 |_=>false
def kC(P:Program)(a:ub)(ops:Array Oper)(key:Nat)(o:Oper):Option K :=
 match o.op with
 |.move x=>(bD x).map .mv
 |.assign x =>
  match Ai x,P.underlying o.type,o.dst with
  |true,some (.slice e),some d=>if a.ahc.contains d then(dC P e).map .qh else(bD x).map .mv
  |_,_,_=>(bD x).map .mv
 |.pick c x y=>match bD c,bD x,bD y with
  |some c',some x',some y'=>some (.pick c' x' y')
  |_,_,_=>none
 |.alloc e=>match sC P e,o.dst with
  |some z,some d=>if a.kp.contains (2000000+key)then(match P.underlying e with
    |some (.struct fs)=>(match fs.toList with
     |[_,f]=>(match P.underlying f.type,z with
      |some (.slice b),[.xF,.aK]=>some (.mp (.l9 e b) [])
      |_,_=>none)
     |_=>none)
    |_=>none)else some (if a.ed.contains d then .fm (look key [] a.nb) z else .Hg (look key [] a.nb) z)
  |_,_=>none
 |.box _ x=>match bD x,o.dst with
  |some x',some d=>some (if a.ed.contains d then .E2 x' else if a.ahc.contains d then(match look key [] a.nb with | [] => .Is x' | nb => .bxn nb x')else .Ir x')
  |_,_=>none
 |.build t ps =>
  match P.underlying t,sC P t with
  |some (.struct fs),some z=>if fs.toList.all (fun f=>(dC P f.type).isSome)then(uL (Ae P fs) ps.toList).map (.l9 z)else none
  |some (.array _ e),some z=>match dC P e with
   |some w=>(uL (fun i=>some (i*w,w)) ps.toList).map (.l9 z)
   |none=>none
  |_,_=>none
 |.buildSlice t n ps =>
  match P.underlying t with
  |some (.slice e) =>
   match dC P e,sC P e,o.dst with
   |some w,some z,some d =>
    if 0<w∧z.length=w∧n*w≤2^24 then
     (uL (fun i=>some (i*w,w)) ps.toList).map fun p =>
      let zs:=(List.range n).flatMap fun _=>z
      if n=0 && ps.isEmpty && a.kp.contains (1000000+key)then .bse else if a.ahc.contains d then .MX n w zs p else .uU n w zs p
    else none
   |_,_,_=>none
  |_=>none
 |.load t x=>match ve P t,dC P t,bD x with
  |some g,some s,some (.t n)=>if(g || s == 1) && decide (0<s)then some (if a.ed.contains (F5 ops 8 n)then .S0 (F5 ops 8 n) g s n else if a.rh.contains (F5 ops 8 n)then .SZ g s (.t n)else if a.kp.contains (3000000+key)then .SY g s (.t n)else .ld g s (.t n))else none
  |_,_,_=>none
 |.store t x y=>match dC P t,bD x,bD y with
  |some s,some (.t n),some y'=>some (if a.ed.contains (F5 ops 8 n)then .Gt (F5 ops 8 n) (look key [] a.nb) s n y' else(match look key none a.sx with | some os => .MJ os s (.t n) y' | none => .st (look key [] a.nb) s (.t n) y'))
  |_,_,_=>none
 |.binOp b t x y _ =>
  match P.underlying t,bD x,bD y with
  |some (.int _),some x',some y'=>some (.bin b x' y')
  |some .bool,some x',some y'=>eqC P b t x' y'
  |some (.struct _),some x',some y'=>eqC P b t x' y'
  |some (.array _ _),some x',some y'=>eqC P b t x' y'
  |some .string,some x',some y'=>(match b with | .add=>some (.zf .SH [x',y']) | .eql=>some (.zf (.seq false) [x',y']) | .neq=>some (.zf (.seq true) [x',y']) | _=>none)
  |some (.pointer _),some x',some (.c .xF)=>isC true b x'
  |some (.pointer el),some x',some y'=>if(P.info? el).isSome then(match b with | .eql=>some (.me (.peq false) [x',y']) | .neq=>some (.me (.peq true) [x',y']) | _=>none)else none
  |some (.slice _),some x',some (.c .aK)=>isC false b x'
  |some (.interface _),some x',some (.c .pN)=>(match b,y with | .eql,.const .nilIface=>some (.isi false x') | .neq,.const .nilIface=>some (.isi true x') | _,_=>none)
  |_,_,_=>none
 |.nilCheck x=>(bD x).map .mW
 |.unOp b _ x=>(bD x).map (.un b)
 |.convert s d x =>
  match P.underlying s,P.underlying d,bD x with
  |some (.int _),some (.int k),some x'=>some (.J6 k x')
  |some (.slice e),some .string,some x'=>(match P.underlying e,dC P e with | some (.int .u8),some 1=>some (.me .b2s [x']) | _,_=>none)
  |some .string,some (.slice e),some x'=>(match P.underlying e,dC P e with | some (.int .u8),some 1=>some (.me .s2b [x']) | _,_=>none)
  |some (.slice e),some (.slice _),some x'=>if s=d then(match P.underlying e with | some (.int .u8)=>some (.cvz x') | _=>none)else none
  |_,_,_=>none
 |.sliceToArrayPointer t x =>
  match P.underlying t,bD x with
  |some (.array n e),some x'=>(dC P e).map fun w => .me (.s2a n w) [x']
  |_,_=>none
 |.makeFunc (.func f) xs ys=>match wH xs.toList,wH ys.toList with
  |some xs',some ys'=>some (.xW f xs' ys')
  |_,_=>none
 |.makeSlice t x y =>
  match P.underlying t with
  |some (.slice e) =>
   match dC P e,(P.info? e).map (·.bytes),sC P e,bD x,bD y with
   |some w,some b,some z,some x',some y'=>if 0<w∧0<b then some (.mks w b z x' y')else none
   |_,_,_,_,_=>none
  |_=>none
 |.slice t x lo hi mx =>
  match P.underlying t,bD x,xI lo,xI hi,xI mx with
  |some (.slice e),some x',some lo',some hi',some mx'=>(dC P e).map fun w => .IF w x' lo' hi' mx'
  |some (.array n e),some x',some lo',some hi',some none=>(dC P e).map fun w => .Od n w x' lo' hi'
  |some .string,some x',some lo',some hi',some none=>some (.zf (.Og lo'.isSome hi'.isSome) (x'::(lo'.toList++hi'.toList)))
  |_,_,_,_,_=>none
 |.fieldAddr s x i =>
  match P.underlying s,bD x with
  |some (.struct fs),some x' =>
   match Ae P fs i with
   |some (off,sz)=>if 0<sz then some (.Iu off x')else none
   |none=>none
  |_,_=>none
 |.field s x i =>
  match P.underlying s,bD x with
  |some (.struct fs),some x' =>
   match fs[i]? with
   |some f=>match ve P f.type,dC P f.type with
    |some g,some sz=>if g || sz == 1 then some (.fld g f.offset sz x')else none
    |_,_=>none
   |none=>none
  |_,_=>none
 |.indexAddr t x i =>
  match P.underlying t,bD x,bD i with
  |some (.array n e),some x',some i'=>(dC P e).map fun w => .Bw n w x' i'
  |some (.slice e),some x',some i'=>(dC P e).map fun w => .fM w x' i'
  |_,_,_=>none
 |.index t x i =>
  match P.underlying t,bD x,bD i with
  |some (.array n e),some x',some i'=>match ve P e,dC P e with
   |some g,some w=>if g || w == 1 then some (.Kf g n w x' i')else none
   |_,_=>none
  |some .string,some x',some i'=>some (.zf .IE [x',i'])
  |_,_,_=>none
 |.extract x i=>(bD x).map (.ext · i)
 |.call c =>
  match c.callee with
  |.value f=>match bD f,wH c.args.toList with
   |some f',some xs=>some (.call (a.kp.contains key) f' xs)
   |_,_=>none
  |.builtin .len =>
   match c.argTypes.toList,c.args.toList with
   |t::_,x::_=>match P.underlying t,bD x with
    |some (.slice _),some x'=>some (.Iy x')
    |some .string,some x'=>some (.zf .Ey [x'])
    |some (.map _ _),some x'=>some (.mp .len [x'])
    |some (.array n _),_=>some (.NT n)
    |some (.pointer r),_=>(match P.underlying r with | some (.array n _)=>some (.NT n) | _=>none)
    |_,_=>none
   |_,_=>none
  |.builtin .recover=>some .M0
  |.builtin .min=>match c.args.toList with
   |[x,y]=>(match bD x,bD y with | some x',some y'=>some (.mn x' y') | _,_=>none)
   |_=>none
  |.builtin .max=>match c.args.toList with
   |[x,y]=>(match bD x,bD y with | some x',some y'=>some (.mx x' y') | _,_=>none)
   |_=>none
  |.builtin .append =>
   match c.argTypes.toList,c.args.toList with
   |[t,u],[x,y]=>match P.underlying t,P.underlying u,bD x,bD y with
    |some (.slice e),some uu,some x',some y' =>
     if afe uu=true then(match dC P e,(P.info? e).map (·.bytes),sC P e with
     |some w,some b,some z=>if 0<w∧0<b∧b≤2^20∧z.length=w then
       some (if Ai x && !(o.dst.any a.ahc.contains)then .T4 w b y' else if a.kp.contains (1000000+key) && (afD x).isSome then .ape w b ((afD x).getD 0) y' else if a.kp.contains key then .apz w b x' y' else(match look key none a.sx with | some os => .RN os w b x' y' | none => .app w b x' y'))else none
     |_,_,_=>none)else none
    |_,_,_,_=>none
   |_,_=>none
  |_=>none
 |.makeInterface t x=>if P.concrete t=true then(bD x).map (.mki t)else none
 |.typeAssert x _ t ok =>
  match P.underlying t,bD x with
  |some (.interface _),_=>none
  |some _,some x'=>if ok then(zvC P t).map fun z => .tas t (some z) x' else some (.tas t none x')
  |_,_=>none
 |.panic x=>(bD x).map .MZ
 |.makeMap _ none=>some (.mp .make [])
 |.makeMap t (some (.const (.int _ _)))=>(match P.underlying t with | some (.map _ _)=>some (.mp .make []) | _=>none)
 |.range t x =>
  match P.underlying t,bD x with
  |some (.map _ _),some x'=>some (.mp .rng [x'])
  |_,_=>none
 |.entry x=>(match bD x with
  |some x'=>some (.mp .ent [x'])
  |none=>none)
 |.lookup t x i ok =>
  match P.underlying t,bD x,bD i with
  |some (.map kt et),some x',some i'=>(match HJ P kt,zvC P et with
   |some ky,some z=>some (.mp (.get ky z ok) [x',i'])
   |_,_=>none)
  |_,_,_=>none
 |.mapUpdate t m x y =>
  match P.underlying t,bD m,bD x,bD y with
  |some (.map kt _),some m',some x',some y'=>(match HJ P kt with
   |some ky=>some (.mp (.put ky) [m',x',y'])
   |none=>none)
  |_,_,_,_=>none
 |.insert t m x y =>
  match P.underlying t,bD m,bD x,bD y with
  |some (.map kt _),some m',some x',some y'=>(match HJ P kt with
   |some ky=>some (.mp (.put ky) [m',x',y'])
   |none=>none)
  |_,_,_,_=>none
 |_=>none
def K.makes:K→Bool
 |.fm .. => true
 |.E2 _=>true
 |_=>false
def K.awC:K→Bool
 |.Gt .. => true
 |_=>false
def SB(P:Program)(a:ub)(n cr:Nat)(ops:Array Oper)(AI:Bool)(i:Nat)(o:Oper):Option Op :=
 match kC P a ops (cr*1000+i) o with
 |some k =>
  match(match o.guard with
   |none=>some none
   |some (j,b)=>match(ops[j]?).bind (·.dst)with
    |some d=>some (some (d,b))
    |none=>none),(match o.dst with | some d=>decide (d<n) | none=>true)with
  |some g,true=>if(match o.dst with | some d => !(a.ed.contains d) || (k.makes && o.guard.isNone) | none => !k.makes) && (!k.awC || o.dst.isNone)then some {dst:=o.dst,Dm:=g,AI,k }else none
  |_,_=>none
 |none=>none
def Kn(P:Program)(a:ub)(n cr:Nat)(ops:Array Oper)(tail:Nat):Nat→List Oper→Option (List Op)
 |_,[]=>some []
 |i,o::r=>match SB P a n cr ops (decide (i<tail) && !(a.kp.contains (cr*1000+i))) i o,Kn P a n cr ops tail (i+1) r with
  |some x,some xs=>some (x::xs)
  |_,_=>none
def Mo.calm:Mo→Bool
 |.get .. => true
 |.len=>true
 |.ent=>true
 |_=>false
def K.calm:K→Bool
 |.st .. => false
 |.MJ .. => false
 |.app .. => false
 |.RN .. => false
 |.apz .. => false
 |.cvz _=>false
 |.qh _=>false
 |.Hg .. => false
 |.Is _=>false
 |.bxn .. => false
 |.MX .. => false
 |.mks .. => false
 |.fm nb _=>nb.isEmpty
 |.Gt _ nb _ _ _=>nb.isEmpty
 |.mp o _=>o.calm
 |.MZ _=>false
 |.M0=>false
 |_=>true
def K.pure:K→Bool
 |.ld .. => false
 |.SY .. => false
 |.Od .. => false
 |.T4 .. => false
 |.ape .. => false
 |.call .. => false
 |.mp .. => false
 |.me .. => false
 |k=>k.calm
def bG.tmps:bG→List Nat
 |.t n=>[n]
 |.c _=>[]
def K.tmps:K→List Nat
 |.mv x=>x.tmps
 |.qh _=>[]
 |.pick c a b=>c.tmps++a.tmps++b.tmps
 |.Hg .. => []
 |.fm .. => []
 |.Ir x=>x.tmps
 |.Is x=>x.tmps
 |.bxn _ x=>x.tmps
 |.E2 x=>x.tmps
 |.S0 v _ _ a=>[v,a]
 |.Gt v _ _ a x=>[v,a]++x.tmps
 |.l9 _ ps=>ps.flatMap fun p=>p.2.2.tmps
 |.uU _ _ _ ps=>ps.flatMap fun p=>p.2.2.tmps
 |.MX _ _ _ ps=>ps.flatMap fun p=>p.2.2.tmps
 |.ld _ _ a=>a.tmps
 |.SZ _ _ a=>a.tmps
 |.SY _ _ a=>a.tmps
 |.SX _ _ x=>x.tmps
 |.mW x=>x.tmps
 |.st _ _ a x=>a.tmps++x.tmps
 |.MJ os _ a x=>a.tmps++x.tmps++os
 |.bin _ x y=>x.tmps++y.tmps
 |.eqv _ _ _ x y=>x.tmps++y.tmps
 |.un _ x=>x.tmps
 |.J6 _ x=>x.tmps
 |.xW _ xs ys=>xs.flatMap bG.tmps++ys.flatMap bG.tmps
 |.mks _ _ _ l c=>l.tmps++c.tmps
 |.IF _ x lo hi m=>x.tmps++(lo.map bG.tmps).getD []++(hi.map bG.tmps).getD []++(m.map bG.tmps).getD []
 |.Od _ _ x lo hi=>x.tmps++(lo.map bG.tmps).getD []++(hi.map bG.tmps).getD []
 |.Iu _ x=>x.tmps
 |.fld _ _ _ x=>x.tmps
 |.Bw _ _ x i=>x.tmps++i.tmps
 |.fM _ x i=>x.tmps++i.tmps
 |.Kf _ _ _ x i=>x.tmps++i.tmps
 |.Iy x=>x.tmps
 |.NT _=>[]
 |.mn x y=>x.tmps++y.tmps
 |.mx x y=>x.tmps++y.tmps
 |.app _ _ s x=>s.tmps++x.tmps
 |.RN os _ _ s x=>s.tmps++x.tmps++os
 |.apz _ _ s x=>s.tmps++x.tmps
 |.T4 _ _ x=>x.tmps
 |.cvz x=>x.tmps
 |.bse=>[]
 |.ape _ _ v x=>v::x.tmps
 |.ext x _=>x.tmps
 |.zf _ xs=>xs.flatMap bG.tmps
 |.mp _ xs=>xs.flatMap bG.tmps
 |.me _ xs=>xs.flatMap bG.tmps
 |.mki _ x=>x.tmps
 |.tas _ _ x=>x.tmps
 |.isi _ x=>x.tmps
 |.MZ x=>x.tmps
 |.M0=>[]
 |.call _ f xs=>f.tmps++xs.flatMap bG.tmps
def Op.EE(o:Op):List Nat:=(match o.Dm with | some (g,_)=>[g] | none=>[])++o.k.tmps
def jm:List Oper→List Nat→List Nat
 |[],acc=>acc
 |o::r,acc=>jm r (acc++[o.after.toList.foldl (fun s e=>if Region.binds .any e then s ||| 2^e.on ||| acc.getD e.on 0 else s) 0])
def Az(bs:List Nat):Nat :=
 go bs.length
where
 go:Nat→Nat
  |0=>0
  |n+1=>if bs.getD n 0=2^n-1 then go n else n+1
def Op.defs(o:Op):List Nat:=o.dst.toList++(match o.k with | .Gt v _ _ _ _=>[v] | _=>[])
def Op.ah5(o p:Op):Bool :=
 o.defs.any (fun d=>p.defs.contains d || p.EE.contains d) || o.EE.any (fun d=>p.defs.contains d)
def Op.still(op:Op):Bool:=op.k.calm && op.AI
def Op.far(o p:Op):Bool :=
 o.Dm.isNone && p.Dm.isNone &&
 match o.k,p.k with
 |.MJ os _ _ _,.ld _ _ (.t m)=>os.contains m
 |.ld _ _ (.t m),.MJ os _ _ _=>os.contains m
 |.MJ os _ _ _,.MJ _ _ (.t m) _=>os.contains m
 |.RN os _ _ _ _,.ld _ _ (.t m)=>os.contains m
 |.ld _ _ (.t _),.Hg [] _=>true
 |.RN ..,.SY _ _ (.t _)=>true
 |_,_=>false
def Op.adr(o p:Op):Bool :=
 match o,p with
 |⟨none,none,_,.Gt v [] _ a x⟩,⟨some d,none,_,.Iu _ (.t m)⟩=>decide (m=v∧d≠v∧d≠a∧d ∉ x.tmps)
 |_,_=>false
def Op.free(o p:Op):Bool:=o.adr p || (!(o.ah5 p) && (o.still && p.still || o.k.pure || p.k.pure || o.far p))
def Hq(bs:List Nat):Nat→List Op→Bool
 |_,[]=>true
 |i,o::r=>after i (i+1) o r && Hq bs (i+1) r
where
 after (i:Nat):Nat→Op→List Op→Bool
  |_,_,[]=>true
  |j,o,p::r=>(o.free p || (bs.getD j 0).testBit i) && after i (j+1) o r
def D2:Nat→List Oper→Bool
 |_,[]=>true
 |i,o::r=>(o.after.toList.all fun e => !Region.binds .any e || decide (e.on<i)) && D2 (i+1) r
def Hu(live:List Nat):Option Nat→List Op→cF
 |some j,xs=>match xs.drop j with
  |x::r => .iY live (xs.take j) x r
  |[] => .cr live xs
 |none,xs => .cr live xs
def N8(P:Program)(a:ub)(n:Nat)(id:Nat)(ops:Array Oper)(draw:Bool):Option cF :=
  if draw then
   let bs:=jm ops.toList []
   let tail:=Az bs
   match Kn P a n id ops tail 0 ops.toList with
   |some xs=>if Hq bs 0 (xs.take tail) && D2 0 ops.toList && xs.all (fun x=>x.k != .M0)then some (Hu (look id [] a.live) ((look id none a.gf).filter fun j=>decide (tail≤j)) xs)else none
   |none=>none
  else(Kn P a n id ops 0 0 ops.toList).map (Hu (look id [] a.live) (look id none a.gf))
def yG(c:cF):List Nat→cF
 |[]=>c
 |vs => .seq (.cJ vs) c
def Br:cF:=.cr [] [⟨none,none,false,.SX false false (.c .undef)⟩]
def J8:Code→Option (bG×List bG)
 |.region _ ops false =>
  match ops.toList with
  |[o]=>(match o.op,o.dst,o.guard with
   |.defer c,none,none=>(match c.callee with
    |.value f=>(match bD f,wH c.args.toList with
     |some f',some xs=>some (f',xs)
     |_,_=>none)
    |_=>none)
   |_,_,_=>none)
  |_=>none
 |_=>none
def R0(P:Program)(a:ub)(n:Nat):Code→Option (cF×bG×List bG)
 |.region id ops false =>
  match ops.toList with
  |[m,o]=>(match o.op,o.dst,o.guard,m.dst with
   |.defer c,none,none,some t=>(match c.callee with
    |.value f=>(match SB P a n id ops false 0 m,bD f,wH c.args.toList with
     |some op,some f',some xs=>if op.k=.M0 then none else some (.cr (t::(xs.flatMap bG.tmps++look id [] a.live)) [op],f',xs)
     |_,_,_=>none)
    |_=>none)
   |_,_,_,_=>none)
  |_=>none
 |_=>none
def NW(a:ub)(n:Nat):Code→Option (Nat×Nat×Nat)
 |.loop (.seq (.region _ ops false) _) =>
  match ops.toList with
  |[o,p]=>(match o.op,o.dst,o.guard,p.op,p.dst,p.guard with
   |.next (.tmp it) false,some nx,none,.extract (.tmp nx') 0,some ok,none =>
    if nx'=nx∧nx<n∧ok<n∧nx≠ok∧nx ∉ a.ed∧ok ∉ a.ed then some (it,nx,ok)else none
   |_,_,_,_,_,_=>none)
  |_=>none
 |_=>none
def agD(a:ub)(n id:Nat)(x:Code)(x':cF):cF :=
 match NW a n x,x' with
 |some (it,nx,ok),.loop live _ (.seq _ c) => .ji live (.t it) nx ok id c .eo
 |_,x' => .bO id x'
def ahy(a:ub):Code→Bool
 |.region id ops _=>a.bj.contains (1000000+id) && decide (2<ops.size)
 |_=>false
def SI(P:Program)(a:ub)(n:Nat)(x:Code)(x' y':cF):cF :=
 match J8 x with
 |some (f,xs) => .RZ f xs y'
 |none =>
  match R0 P a n x with
  |some (c,f,xs) => .seq c (.RZ f xs y')
  |none =>
  match x,x' with
  |.seq _ (.block _ _),.seq p' (.ji live it nx ok b c .eo) => .seq p' (.ji live it nx ok b c y')
  |_,_ => .seq x' (if ahy a x then .sgm y' else y')
def H0(c:cF):cF:=match jl c with | some _=>Br | none => .seq .eo c
def bU(P:Program)(a:ub)(n:Nat)(bO:Nat):Code→Option cF
 |.skip=>some .eo
 |.region id ops draw=>match N8 P a n id ops draw with
  |some c=>some (yG c (look id [] a.fz))
  |none=>some Br
 |.seq x y=>match bU P a n bO x,bU P a n bO y with
  |some x',some y'=>some (SI P a n x x' y')
  |_,_=>none
 |.cond c x y=>match bD c,bU P a n bO x,bU P a n bO y with
  |some c',some x',some y'=>some (.ite c' x' y')
  |_,_,_=>none
 |.block id x=>(bU P a n id x).map (agD a n id x)
 |.loop x=>(bU P a n bO x).map (.loop (look bO [] a.amE) (a.bj.contains bO))
 |.rangeFunc f ps x y=>match bD f,bU P a n bO x,bU P a n bO y with
  |some f',some x',some y'=>if ps.toList.all (fun t=>decide (t<n) && !(a.ed.contains t))then some (.IC (look bO [] a.amE) f' ps.toList x' y')else none
  |_,_,_=>none
 |.exit id=>some (.exit id)
 |.ret=>some .ret
 |.scope x=>(bU P a n bO x).map H0
 |.label _=>some .eo
 |_=>some Br
def ahq(P:Program)(a:ub):ResultVar→Option DG
 |.tmp t=>some (.t t)
 |.cell x t=>match ve P t,dC P t with
  |some g,some s=>if(g || s == 1) && decide (0<s)then some (if a.ed.contains x then .v x g s else .c x g s)else none
  |_,_=>none
def F4(P:Program)(a:ub):List ResultVar→Option (List DG)
 |[]=>some []
 |r::rs=>match ahq P a r,F4 P a rs with
  |some x,some xs=>some (x::xs)
  |_,_=>none
def fnC(P:Program)(a:ub)(f:Func):Option Fn :=
 match f.body with
 |some c=>match bU P a f.ntmps 0 c,F4 P a f.results.toList with
  |some c',some rs=>if f.params.size+f.nfree≤f.ntmps then some {N1:=f.params.size+f.nfree,res:=rs,body:=c' }else none
  |_,_=>none
 |none=>none
def Rd(w:World)(b o:Nat)(vs:List Value):Prop:=∀(j:Nat) x,vs[j]?=some x→w.cell? ⟨b,o+j,none⟩=some x
theorem Rd.take{w:World}{b o:Nat}{vs:List Value}(h:Rd w b o vs)(n:Nat):Rd w b o (vs.take n):=fun j x e=>h j x (by
 rw[eu]at e;split at e<;>simp_all)
theorem Rd.drop{w:World}{b o:Nat}{vs:List Value}(h:Rd w b o vs)(n:Nat):Rd w b (o+n) (vs.drop n):=fun j x e=>by
 have:=h (n+j) x (by rw[fx]at e;exact e);rw[show o+n+j=o+(n+j)from by omega];exact this
theorem add_eq(b o n:Nat):Addr.add ⟨b,o,none⟩ n=⟨b,o+n,none⟩:=by
 unfold Addr.add;split
 ·subst_vars;rfl
 ·rfl
section types
variable {P:Program} {t:TypeId}
theorem run_typeInfo{i:TypeInfo}(h:P.info? t=some i)(w:World):(typeInfo t).run P w=.ok i w:=by
 simp[typeInfo,h]
theorem run_sizeOf{s:Nat}(h:dC P t=some s)(w:World):(sizeOf t).run P w=.ok s w:=by
 simp only[dC,ad]at h;obtain⟨i,hi,rfl⟩:=h;simp[sizeOf,run_typeInfo hi]
theorem bh{d:TypeDesc}(h:P.underlying t=some d)(w:World):(underlying t).run P w=.ok d w:=by
 simp[underlying,h]
theorem Cd{b:Bool}(h:ve P t=some b)(w:World):(isAgg t).run P w=.ok b w:=by
 unfold ve at h;cases hu:P.underlying t with
 |none=>simp[hu]at h
 |some d =>
  rw[hu]at h;simp only[isAgg,Sem.run_bind,bh hu,Result.andThen_ok];cases d<;>simp_all
theorem iD{z:Value}{i:TypeInfo}(h:P.info? t=some i)(hz:i.zero=some z)(w:World):(zeroValue t).run P w=.ok z w:=by
 simp[zeroValue,run_typeInfo h,hz]
end types
theorem MU(g:G){v:Value}{d:D}(h:ahR v=some d):bF g d v∧v.oneCell'=true:=by
 unfold ahR at h;split at h<;>first | (cases h;exact⟨by constructor,rfl⟩) | cases h
theorem Hr(g:G){vs:List Value}{ds:List D}(h:E3 vs=some ds):bA g ds vs∧∀x∈vs,x.oneCell'=true:=by
 induction vs generalizing ds with
 |nil=>simp only[E3,ae]at h;subst h;exact⟨.nil,by simp⟩
 |cons v vs ih =>
  simp only[E3]at h;split at h
  ·rename_i d ds' h1 h2;cases h;obtain⟨h3,h4⟩:=ih h2;obtain⟨h5,h6⟩:=MU g h1;exact⟨.cons _ _ _ _ h5 h3,by simp only[bd];rintro x (rfl | hx);exact h6;exact h4 x hx⟩
  ·cases h
theorem Ht(g:G){v:Value}{d:D}(h:J4 v=some d):bF g d v:=by
 unfold J4 at h;split at h
 ·rename_i cs;simp only[ad]at h;obtain⟨ds,h1,rfl⟩:=h;obtain⟨h2,h3⟩:=Hr g h1;exact .agg ds cs h2 h3
 ·exact(MU g h).1
theorem tV{P:Program}{t:TypeId}(g:G){z:List D}(h:sC P t=some z):∃i v,P.info? t=some i∧i.zero=some v∧bA g z v.cells.toList∧∀x∈v.cells.toList,x.oneCell'=true:=by
 unfold sC at h;split at h
 ·rename_i i hi;split at h
  ·rename_i v hv;obtain⟨h2,h3⟩:=Hr g h;exact⟨i,v,hi,hv,h2,h3⟩
  ·cases h
 ·cases h
theorem BJ{P:Program}{t:TypeId}{w:World}{b o sz:Nat}{ag:Bool}{vs:List Value}(hag:ve P t=some ag)(hsz:dC P t=some sz)(hone:(ag || sz == 1)=true)
  (hr:Rd w b o vs) (hlen:sz≤vs.length):
  ∃v,(loadVar t ⟨b,o,none⟩).run P w=.ok v w∧(if ag then v=.agg (vs.take sz).toArray else ∃x r,vs=x::r∧v=x):=by
 cases ag with
 |true =>
  have h1:(loadCells ⟨b,o,none⟩ sz).run P w=.ok (vs.take sz).toArray w:=by
   have:=run_loadCells_list (P:=P) w ⟨b,o,none⟩ (vs.take sz) (fun j v e=>by rw[add_eq];exact hr.take sz j v e);rwa[jC,Nat.min_eq_left hlen]at this
  exact⟨_,by simp[loadVar,Cd hag,run_sizeOf hsz,h1],rfl⟩
 |false =>
  simp only[Bool.false_or,beq_iff_eq]at hone;subst hone;cases vs with
  |nil=>simp at hlen
  |cons x r =>
   have:=hr 0 x rfl;exact⟨x,by simp only[Nat.add_zero]at this;simp[loadVar,Cd hag,this],x,r,rfl,rfl⟩
theorem xM{P:Program}{b:Nat}{el:TypeId}:∀(ps:List Value) (w:World) (o i:Nat) (c:Array Value),(∀x∈ps,x.oneCell'=true) →
  w.heap[b]?=some (.cells c el (0,0))→o+i+ps.length≤c.size →
  ∃w' c',(storeCells ⟨b,o,none⟩ ps i).run P w=.ok () w'∧w'.heap[b]?=some (.cells c' el (0,0))∧c'.size=c.size ∧
   (∀j,c'[j]?=if o+i≤j∧j<o+i+ps.length then ps[j-(o+i)]? else c[j]?) ∧
   (∀x,x≠b→w'.heap[x]?=w.heap[x]?)∧w'.heap.size=w.heap.size∧w'.os=w.os∧w'.tape=w.tape∧w'.output=w.output
 |[],w,o,i,c,_,hb,_=>⟨w,c,by simp[storeCells],hb,rfl,fun j=>by rw[if_neg (by simp only[bL];omega)],fun _ _=>rfl,rfl,rfl,rfl,rfl⟩
 |p::ps,w,o,i,c,h1,hb,hl=>by
  simp only[aG]at hl;have hp:=h1 p (by simp);have hcell:w.cell? ⟨b,o+i,none⟩=some (c[o+i]'(by omega)):=by
   simp only[World.cell?,hb];simp
  have hfz:w.frozen? ⟨b,o+i,none⟩=false:=by simp[World.frozen?,hb]
  have hb1:(w.setCell ⟨b,o+i,none⟩ p).heap[b]?=some (.cells (c.setIfInBounds (o+i) p) el (0,0)):=by
   simp[World.setCell,eS,hb]
  obtain⟨w',c',hrun,hb',hs,hc,ho,hsz,e1,e2,e3⟩:=xM ps (w.setCell ⟨b,o+i,none⟩ p) o (i+1) (c.setIfInBounds (o+i) p) (fun x hx=>h1 x (by simp[hx])) hb1 (by simp;omega);refine⟨w',c',?_,hb',by simpa using hs,?_,?_,by simpa using hsz,e1,e2,e3⟩
  ·simp only[storeCells,Sem.run_bind,add_eq,run_store P w _ p .plain hp,hcell,hfz];simpa using hrun
  ·intro j;rw[hc j];by_cases hj:j=o+i
   ·subst hj;rw[if_neg (by omega),if_pos (by simp)];rw[Array.getElem?_setIfInBounds_self_of_lt (by omega)];simp
   ·by_cases hj2:o+(i+1)≤j∧j<o+(i+1)+ps.length
    ·rw[if_pos hj2,if_pos (by simp;omega)];rw[show j-(o+i)=(j-(o+(i+1)))+1 from by omega];simp
    ·rw[if_neg hj2,if_neg (by simp;omega)];rw[Array.getElem?_setIfInBounds_ne (by omega)]
  ·intro x hx;rw[ho x hx];simp only[World.setCell,eS];rw[if_neg (by simpa using fun e=>hx e.symm)]
theorem Eu{P:Program}{t:TypeId}{w:World}{b o sz:Nat}{el:TypeId}{c:Array Value}{v:Value}(hsz:dC P t=some sz)(hv:v.cells.size=sz)
  (h1:∀x∈v.cells.toList,x.oneCell'=true) (hb:w.heap[b]?=some (.cells c el (0,0))) (hl:o+sz≤c.size):
  ∃w' c',(storeVar t ⟨b,o,none⟩ v).run P w=.ok () w'∧w'.heap[b]?=some (.cells c' el (0,0))∧c'.size=c.size ∧
   (∀j,c'[j]?=if o≤j∧j<o+sz then v.cells.toList[j-o]? else c[j]?) ∧
   (∀x,x≠b→w'.heap[x]?=w.heap[x]?)∧w'.heap.size=w.heap.size∧w'.os=w.os∧w'.tape=w.tape∧w'.output=w.output:=by
 obtain⟨w',c',hrun,rest⟩:=xM (P:=P) (b:=b) (el:=el) v.cells.toList w o 0 c h1 hb (by simp[hv];omega);refine⟨w',c',?_,?_⟩
 ·simp only[storeVar,Sem.run_bind,run_sizeOf hsz,Result.andThen_ok,hv];simpa using hrun
 ·simpa[hv]using rest
end Go.Abs
