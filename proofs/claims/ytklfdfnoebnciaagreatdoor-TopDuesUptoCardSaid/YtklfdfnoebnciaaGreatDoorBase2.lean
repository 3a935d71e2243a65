import Derived.Test.YtklfdfnoebnciaaGreatDoorBase0
import GoSem.Core.Program
import GoSem.Core.Layout
import Derived.Laws.Build
import Derived.Test.YtklfdfnoebnciaaGreatDoorBase1
set_option linter.all false
namespace Go.Abs
open Go
structure uc where
 live:List (Nat×List Nat)
 ajp:List (Nat×List Nat)
 bk:List Nat
 acG:List Nat
 dR:List Nat
 nb:List (Nat×List (Nat×Nat))
 kp:List Nat
 fz:List (Nat×List Nat)
 pT:List Nat
 sx:List (Nat×Option (List Nat))
 fx:List (Nat×Option Nat):=[]
def look{α:Type}(n:Nat)(d:α):List (Nat×α)→α
 |[]=>d
 |(k,v)::r=>if k=n then v else look n d r
def adk:Value→Option D
 |.bool b=>some (.bool b)
 |.int k n=>some (.int k n)
 |.string s=>some (.str s.data.toList)
 |.pointer none=>some .wO
 |.slice none 0 0=>some .aI
 |.nilFunc=>some .ir
 |.nilIface=>some .o9
 |.map none=>some .undef
 |_=>none
def D2:List Value→Option (List D)
 |[]=>some []
 |v::vs=>match adk v,D2 vs with
  |some d,some ds=>some (d::ds)
  |_,_=>none
def IK:Value→Option D
 |.agg cs=>(D2 cs.toList).map .agg
 |v=>adk v
def bA:Operand→Option bE
 |.tmp t=>some (.t t)
 |.const v=>(IK v).map .c
 |.func f=>some (.c (.fn f [] []))
 |.global _=>none
def vJ:List Operand→Option (List bE)
 |[]=>some []
 |x::xs=>match bA x,vJ xs with
  |some y,some ys=>some (y::ys)
  |_,_=>none
def wQ:Option Operand→Option (Option bE)
 |none=>some none
 |some x=>(bA x).map some
def c8(P:Program)(t:TypeId):Option Nat:=(P.info? t).map (·.size)
def uw(P:Program)(t:TypeId):Option Bool :=
 match P.underlying t with
 |some (.struct _) | some (.array _ _)=>some true
 |some _=>some false
 |none=>none
def rE(P:Program)(t:TypeId):Option (List D) :=
 match P.info? t with
 |some i=>match i.zero with
  |some z=>D2 z.cells.toList
  |none=>none
 |none=>none
def zr:Operand→Bool
 |.const (.slice none 0 0)=>true
 |_=>false
def tU(place:Nat→Option (Nat×Nat)):List (Nat×Operand)→Option (List (Nat×Nat×bE))
 |[]=>some []
 |(i,x)::r=>match place i,bA x,tU place r with
  |some (o,s),some y,some r'=>some ((o,s,y)::r')
  |_,_,_=>none
def zo(P:Program)(fs:Array Field)(i:Nat):Option (Nat×Nat) :=
 match fs[i]? with
 |some f=>(c8 P f.type).map fun s=>(f.offset,s)
 |none=>none
def mc(P:Program):Nat→TypeId→Option (List (Option IntKind))
 |0,_=>none
 |d+1,t =>
  match P.underlying t with
  |some (.int k)=>some [some k]
  |some .bool=>some [none]
  |some (.struct fs)=>if P.stoodInHeld t then none else kindsF P (mc P d) 0 fs.toList
  |some (.array n e)=>match mc P d e with
   |some ks=>if c8 P e == some ks.length && decide (0<ks.length)then some ((List.range n).flatMap fun _=>ks)else none
   |none=>none
  |_=>none
where
 kindsF (P:Program) (f:TypeId→Option (List (Option IntKind))) (o:Nat):List Field→Option (List (Option IntKind))
  |[]=>some []
  |x::r=>match f x.type with
   |some ks=>if x.name ≠ "_" ∧ x.offset=o∧c8 P x.type=some ks.length∧0<ks.length then(kindsF P f (o+ks.length) r).map (ks ++ ·)else none
   |none=>none
def zvC(P:Program)(t:TypeId):Option D :=
 match P.info? t with
 |some i=>match i.zero with
  |some z=>IK z
  |none=>none
 |none=>none
def Gr(P:Program)(t:TypeId):Option Ky :=
 match P.underlying t with
 |some .string=>some none
 |some (.int k)=>some (some (false,[some k]))
 |some (.struct fs) =>
  if fs.toList.all (fun f=>match P.underlying f.type with | some (.int _)=>true | some .bool=>true | _=>false)then
   (mc P 20 t).map fun ks=>some (true,ks)
  else none
 |_=>none
def eqC(P:Program)(b:BinOp)(t:TypeId)(x y:bE):Option K :=
 match mc P 20 t with
 |some ks=>if P.eqGuardType P.depth t then none else
  match b with
  |.eql=>(uw P t).map fun ag => .eqv ag ks false x y
  |.neq=>(uw P t).map fun ag => .eqv ag ks true x y
  |_=>none
 |none=>none
def EU(ops:Array Oper):Nat→Nat→Nat
 |0,t=>t
 |n+1,t =>
  match ops.toList.find? (fun o=>o.dst == some t)with
  |some o=>match o.op with
   |.fieldAddr _ (.tmp x) _=>EU ops n x
   |.indexAddr _ (.tmp x) _=>EU ops n x
   |_=>t
  |none=>t
def abj:Operand→Option Nat
 |.tmp t=>some t
 |_=>none
def isC(ps:Bool)(b:BinOp)(x:bE):Option K :=
 match b with
 |.eql=>some (.isn ps false x)
 |.neq=>some (.isn ps true x)
 |_=>none
def aaR:TypeDesc→Bool
 |.slice _=>true
 |.string=>true
 |_=>false
def kC(P:Program)(a:uc)(ops:Array Oper)(key:Nat)(o:Oper):Option K :=
 match o.op with
 |.move x=>(bA x).map .mv
 |.assign x =>
  match zr x,P.underlying o.type,o.dst with
  |true,some (.slice e),some d=>if a.acG.contains d then(c8 P e).map .rq else(bA x).map .mv
  |_,_,_=>(bA x).map .mv
 |.pick c x y=>match bA c,bA x,bA y with
  |some c',some x',some y'=>some (.pick c' x' y')
  |_,_,_=>none
 |.alloc e=>match rE P e,o.dst with
  |some z,some d=>if a.kp.contains (2000000+key)then(match P.underlying e with
    |some (.struct fs)=>(match fs.toList with
     |[_,f]=>(match P.underlying f.type,z with
      |some (.slice b),[.wO,.aI]=>some (.mp (.lf e b) [])
      |_,_=>none)
     |_=>none)
    |_=>none)else some (if a.dR.contains d then .dT (look key [] a.nb) z else .G8 (look key [] a.nb) z)
  |_,_=>none
 |.box _ x=>match bA x,o.dst with
  |some x',some d=>some (if a.dR.contains d then .D1 x' else if a.acG.contains d then(match look key [] a.nb with | [] => .Ha x' | nb => .bxn nb x')else .G9 x')
  |_,_=>none
 |.build t ps =>
  match P.underlying t,rE P t with
  |some (.struct fs),some z=>if fs.toList.all (fun f=>(c8 P f.type).isSome)then(tU (zo P fs) ps.toList).map (.lf z)else none
  |some (.array _ e),some z=>match c8 P e with
   |some w=>(tU (fun i=>some (i*w,w)) ps.toList).map (.lf z)
   |none=>none
  |_,_=>none
 |.buildSlice t n ps =>
  match P.underlying t with
  |some (.slice e) =>
   match c8 P e,rE P e,o.dst with
   |some w,some z,some d =>
    if 0<w∧z.length=w∧n*w≤2^24 then
     (tU (fun i=>some (i*w,w)) ps.toList).map fun p =>
      let zs:=(List.range n).flatMap fun _=>z
      if n=0 && ps.isEmpty && a.kp.contains (1000000+key)then .bse else if a.acG.contains d then .K4 n w zs p else .uH n w zs p
    else none
   |_,_,_=>none
  |_=>none
 |.load t x=>match uw P t,c8 P t,bA x with
  |some g,some s,some (.t n)=>if(g || s == 1) && decide (0<s)then some (if a.dR.contains (EU ops 8 n)then .PX (EU ops 8 n) g s n else if a.pT.contains (EU ops 8 n)then .PW g s (.t n)else if a.kp.contains (3000000+key)then .PV g s (.t n)else .ld g s (.t n))else none
  |_,_,_=>none
 |.store t x y=>match c8 P t,bA x,bA y with
  |some s,some (.t n),some y'=>some (if a.dR.contains (EU ops 8 n)then .Er (EU ops 8 n) (look key [] a.nb) s n y' else(match look key none a.sx with | some os => .PK os s (.t n) y' | none => .st (look key [] a.nb) s (.t n) y'))
  |_,_,_=>none
 |.binOp b t x y _ =>
  match P.underlying t,bA x,bA y with
  |some (.int _),some x',some y'=>some (.bin b x' y')
  |some .bool,some x',some y'=>eqC P b t x' y'
  |some (.struct _),some x',some y'=>eqC P b t x' y'
  |some (.array _ _),some x',some y'=>eqC P b t x' y'
  |some .string,some x',some y'=>(match b with | .add=>some (.BR .aoF [x',y']) | .eql=>some (.BR (.seq false) [x',y']) | .neq=>some (.BR (.seq true) [x',y']) | _=>none)
  |some (.pointer _),some x',some (.c .wO)=>isC true b x'
  |some (.pointer el),some x',some y'=>if(P.info? el).isSome then(match b with | .eql=>some (.me (.peq false) [x',y']) | .neq=>some (.me (.peq true) [x',y']) | _=>none)else none
  |some (.slice _),some x',some (.c .aI)=>isC false b x'
  |some (.interface _),some x',some (.c .o9)=>(match b,y with | .eql,.const .nilIface=>some (.isi false x') | .neq,.const .nilIface=>some (.isi true x') | _,_=>none)
  |_,_,_=>none
 |.nilCheck x=>(bA x).map .ng
 |.unOp b _ x=>(bA x).map (.un b)
 |.convert s d x =>
  match P.underlying s,P.underlying d,bA x with
  |some (.int _),some (.int k),some x'=>some (.Q5 k x')
  |some (.slice e),some .string,some x'=>(match P.underlying e,c8 P e with | some (.int .u8),some 1=>some (.me .b2s [x']) | _,_=>none)
  |some .string,some (.slice e),some x'=>(match P.underlying e,c8 P e with | some (.int .u8),some 1=>some (.me .s2b [x']) | _,_=>none)
  |some (.slice e),some (.slice _),some x'=>if s=d then(match P.underlying e with | some (.int .u8)=>some (.cvz x') | _=>none)else none
  |_,_,_=>none
 |.sliceToArrayPointer t x =>
  match P.underlying t,bA x with
  |some (.array n e),some x'=>(c8 P e).map fun w => .me (.s2a n w) [x']
  |_,_=>none
 |.makeFunc (.func f) xs ys=>match vJ xs.toList,vJ ys.toList with
  |some xs',some ys'=>some (.xf f xs' ys')
  |_,_=>none
 |.makeSlice t x y =>
  match P.underlying t with
  |some (.slice e) =>
   match c8 P e,(P.info? e).map (·.bytes),rE P e,bA x,bA y with
   |some w,some b,some z,some x',some y'=>if 0<w∧0<b then some (.mks w b z x' y')else none
   |_,_,_,_,_=>none
  |_=>none
 |.slice t x lo hi mx =>
  match P.underlying t,bA x,wQ lo,wQ hi,wQ mx with
  |some (.slice e),some x',some lo',some hi',some mx'=>(c8 P e).map fun w => .K8 w x' lo' hi' mx'
  |some (.array n e),some x',some lo',some hi',some none=>(c8 P e).map fun w => .Mg n w x' lo' hi'
  |some .string,some x',some lo',some hi',some none=>some (.BR (.Mj lo'.isSome hi'.isSome) (x'::(lo'.toList++hi'.toList)))
  |_,_,_,_,_=>none
 |.fieldAddr s x i =>
  match P.underlying s,bA x with
  |some (.struct fs),some x' =>
   match zo P fs i with
   |some (off,sz)=>if 0<sz then some (.Hc off x')else none
   |none=>none
  |_,_=>none
 |.field s x i =>
  match P.underlying s,bA x with
  |some (.struct fs),some x' =>
   match fs[i]? with
   |some f=>match uw P f.type,c8 P f.type with
    |some g,some sz=>if g || sz == 1 then some (.fld g f.offset sz x')else none
    |_,_=>none
   |none=>none
  |_,_=>none
 |.indexAddr t x i =>
  match P.underlying t,bA x,bA i with
  |some (.array n e),some x',some i'=>(c8 P e).map fun w => .AI n w x' i'
  |some (.slice e),some x',some i'=>(c8 P e).map fun w => .eI w x' i'
  |_,_,_=>none
 |.index t x i =>
  match P.underlying t,bA x,bA i with
  |some (.array n e),some x',some i'=>match uw P e,c8 P e with
   |some g,some w=>if g || w == 1 then some (.IW g n w x' i')else none
   |_,_=>none
  |some .string,some x',some i'=>some (.BR .Ho [x',i'])
  |_,_,_=>none
 |.extract x i=>(bA x).map (.ext · i)
 |.call c =>
  match c.callee with
  |.value f=>match bA f,vJ c.args.toList with
   |some f',some xs=>some (.call (a.kp.contains key) f' xs)
   |_,_=>none
  |.builtin .len =>
   match c.argTypes.toList,c.args.toList with
   |t::_,x::_=>match P.underlying t,bA x with
    |some (.slice _),some x'=>some (.Hh x')
    |some .string,some x'=>some (.BR .Eo [x'])
    |some (.map _ _),some x'=>some (.mp .len [x'])
    |some (.array n _),_=>some (.LS n)
    |some (.pointer r),_=>(match P.underlying r with | some (.array n _)=>some (.LS n) | _=>none)
    |_,_=>none
   |_,_=>none
  |.builtin .recover=>some .K7
  |.builtin .min=>match c.args.toList with
   |[x,y]=>(match bA x,bA y with | some x',some y'=>some (.mn x' y') | _,_=>none)
   |_=>none
  |.builtin .max=>match c.args.toList with
   |[x,y]=>(match bA x,bA y with | some x',some y'=>some (.mx x' y') | _,_=>none)
   |_=>none
  |.builtin .append =>
   match c.argTypes.toList,c.args.toList with
   |[t,u],[x,y]=>match P.underlying t,P.underlying u,bA x,bA y with
    |some (.slice e),some uu,some x',some y' =>
     if aaR uu=true then(match c8 P e,(P.info? e).map (·.bytes),rE P e with
     |some w,some b,some z=>if 0<w∧0<b∧b≤2^20∧z.length=w then
       some (if zr x && !(o.dst.any a.acG.contains)then .cpi w b y' else if a.kp.contains (1000000+key) && (abj x).isSome then .ape w b ((abj x).getD 0) y' else if a.kp.contains key then .PT w b x' y' else(match look key none a.sx with | some os => .OQ os w b x' y' | none => .app w b x' y'))else none
     |_,_,_=>none)else none
    |_,_,_,_=>none
   |_,_=>none
  |_=>none
 |.makeInterface t x=>if P.concrete t=true then(bA x).map (.mki t)else none
 |.typeAssert x _ t ok =>
  match P.underlying t,bA x with
  |some (.interface _),_=>none
  |some _,some x'=>if ok then(zvC P t).map fun z => .tas t (some z) x' else some (.tas t none x')
  |_,_=>none
 |.panic x=>(bA x).map .K6
 |.makeMap _ none=>some (.mp .make [])
 |.makeMap t (some (.const (.int _ _)))=>(match P.underlying t with | some (.map _ _)=>some (.mp .make []) | _=>none)
 |.range t x =>
  match P.underlying t,bA x with
  |some (.map _ _),some x'=>some (.mp .rng [x'])
  |_,_=>none
 |.entry x=>(match bA x with
  |some x'=>some (.mp .ent [x'])
  |none=>none)
 |.lookup t x i ok =>
  match P.underlying t,bA x,bA i with
  |some (.map kt et),some x',some i'=>(match Gr P kt,zvC P et with
   |some ky,some z=>some (.mp (.get ky z ok) [x',i'])
   |_,_=>none)
  |_,_,_=>none
 |.mapUpdate t m x y =>
  match P.underlying t,bA m,bA x,bA y with
  |some (.map kt _),some m',some x',some y'=>(match Gr P kt with
   |some ky=>some (.mp (.put ky) [m',x',y'])
   |none=>none)
  |_,_,_,_=>none
 |.insert t m x y =>
  match P.underlying t,bA m,bA x,bA y with
  |some (.map kt _),some m',some x',some y'=>(match Gr P kt with
   |some ky=>some (.mp (.put ky) [m',x',y'])
   |none=>none)
  |_,_,_,_=>none
 |_=>none
def K.makes:K→Bool
 |.dT .. => true
 |.D1 _=>true
 |_=>false
def K.atF:K→Bool
 |.Er .. => true
 |_=>false
def PA(P:Program)(a:uc)(n cm:Nat)(ops:Array Oper)(zW:Bool)(i:Nat)(o:Oper):Option Op :=
 match kC P a ops (cm*1000+i) o with
 |some k =>
  match(match o.guard with
   |none=>some none
   |some (j,b)=>match(ops[j]?).bind (·.dst)with
    |some d=>some (some (d,b))
    |none=>none),(match o.dst with | some d=>decide (d<n) | none=>true)with
  |some g,true=>if(match o.dst with | some d => !(a.dR.contains d) || (k.makes && o.guard.isNone) | none => !k.makes) && (!k.atF || o.dst.isNone)then some {dst:=o.dst,Cz:=g,zW,k }else none
  |_,_=>none
 |none=>none
def I4(P:Program)(a:uc)(n cm:Nat)(ops:Array Oper)(tail:Nat):Nat→List Oper→Option (List Op)
 |_,[]=>some []
 |i,o::r=>match PA P a n cm ops (decide (i<tail) && !(a.kp.contains (cm*1000+i))) i o,I4 P a n cm ops tail (i+1) r with
  |some x,some xs=>some (x::xs)
  |_,_=>none
def Mo.calm:Mo→Bool
 |.get .. => true
 |.len=>true
 |.ent=>true
 |_=>false
def K.calm:K→Bool
 |.st .. => false
 |.PK .. => false
 |.app .. => false
 |.OQ .. => false
 |.PT .. => false
 |.cvz _=>false
 |.rq _=>false
 |.G8 .. => false
 |.Ha _=>false
 |.bxn .. => false
 |.K4 .. => false
 |.mks .. => false
 |.dT nb _=>nb.isEmpty
 |.Er _ nb _ _ _=>nb.isEmpty
 |.mp o _=>o.calm
 |.K6 _=>false
 |.K7=>false
 |_=>true
def K.pure:K→Bool
 |.ld .. => false
 |.PV .. => false
 |.Mg .. => false
 |.cpi .. => false
 |.ape .. => false
 |.call .. => false
 |.mp .. => false
 |.me .. => false
 |k=>k.calm
def bE.tmps:bE→List Nat
 |.t n=>[n]
 |.c _=>[]
def K.tmps:K→List Nat
 |.mv x=>x.tmps
 |.rq _=>[]
 |.pick c a b=>c.tmps++a.tmps++b.tmps
 |.G8 .. => []
 |.dT .. => []
 |.G9 x=>x.tmps
 |.Ha x=>x.tmps
 |.bxn _ x=>x.tmps
 |.D1 x=>x.tmps
 |.PX v _ _ a=>[v,a]
 |.Er v _ _ a x=>[v,a]++x.tmps
 |.lf _ ps=>ps.flatMap fun p=>p.2.2.tmps
 |.uH _ _ _ ps=>ps.flatMap fun p=>p.2.2.tmps
 |.K4 _ _ _ ps=>ps.flatMap fun p=>p.2.2.tmps
 |.ld _ _ a=>a.tmps
 |.PW _ _ a=>a.tmps
 |.PV _ _ a=>a.tmps
 |.isn _ _ x=>x.tmps
 |.ng x=>x.tmps
 |.st _ _ a x=>a.tmps++x.tmps
 |.PK os _ a x=>a.tmps++x.tmps++os
 |.bin _ x y=>x.tmps++y.tmps
 |.eqv _ _ _ x y=>x.tmps++y.tmps
 |.un _ x=>x.tmps
 |.Q5 _ x=>x.tmps
 |.xf _ xs ys=>xs.flatMap bE.tmps++ys.flatMap bE.tmps
 |.mks _ _ _ l c=>l.tmps++c.tmps
 |.K8 _ x lo hi m=>x.tmps++(lo.map bE.tmps).getD []++(hi.map bE.tmps).getD []++(m.map bE.tmps).getD []
 |.Mg _ _ x lo hi=>x.tmps++(lo.map bE.tmps).getD []++(hi.map bE.tmps).getD []
 |.Hc _ x=>x.tmps
 |.fld _ _ _ x=>x.tmps
 |.AI _ _ x i=>x.tmps++i.tmps
 |.eI _ x i=>x.tmps++i.tmps
 |.IW _ _ _ x i=>x.tmps++i.tmps
 |.Hh x=>x.tmps
 |.LS _=>[]
 |.mn x y=>x.tmps++y.tmps
 |.mx x y=>x.tmps++y.tmps
 |.app _ _ s x=>s.tmps++x.tmps
 |.OQ os _ _ s x=>s.tmps++x.tmps++os
 |.PT _ _ s x=>s.tmps++x.tmps
 |.cpi _ _ x=>x.tmps
 |.cvz x=>x.tmps
 |.bse=>[]
 |.ape _ _ v x=>v::x.tmps
 |.ext x _=>x.tmps
 |.BR _ xs=>xs.flatMap bE.tmps
 |.mp _ xs=>xs.flatMap bE.tmps
 |.me _ xs=>xs.flatMap bE.tmps
 |.mki _ x=>x.tmps
 |.tas _ _ x=>x.tmps
 |.isi _ x=>x.tmps
 |.K6 x=>x.tmps
 |.K7=>[]
 |.call _ f xs=>f.tmps++xs.flatMap bE.tmps
def Op.DI(o:Op):List Nat:=(match o.Cz with | some (g,_)=>[g] | none=>[])++o.k.tmps
def iE:List Oper→List Nat→List Nat
 |[],acc=>acc
 |o::r,acc=>iE r (acc++[o.after.toList.foldl (fun s e=>if Region.binds .any e then s ||| 2^e.on ||| acc.getD e.on 0 else s) 0])
def zK(bs:List Nat):Nat :=
 go bs.length
where
 go:Nat→Nat
  |0=>0
  |n+1=>if bs.getD n 0=2^n-1 then go n else n+1
def Op.defs(o:Op):List Nat:=o.dst.toList++(match o.k with | .Er v _ _ _ _=>[v] | _=>[])
def Op.ady(o p:Op):Bool :=
 o.defs.any (fun d=>p.defs.contains d || p.DI.contains d) || o.DI.any (fun d=>p.defs.contains d)
def Op.still(op:Op):Bool:=op.k.calm && op.zW
def Op.far(o p:Op):Bool :=
 o.Cz.isNone && p.Cz.isNone &&
 match o.k,p.k with
 |.PK os _ _ _,.ld _ _ (.t m)=>os.contains m
 |.ld _ _ (.t m),.PK os _ _ _=>os.contains m
 |.PK os _ _ _,.PK _ _ (.t m) _=>os.contains m
 |.OQ os _ _ _ _,.ld _ _ (.t m)=>os.contains m
 |.ld _ _ (.t _),.G8 [] _=>true
 |.OQ ..,.PV _ _ (.t _)=>true
 |_,_=>false
def Op.adr(o p:Op):Bool :=
 match o,p with
 |⟨none,none,_,.Er v [] _ a x⟩,⟨some d,none,_,.Hc _ (.t m)⟩=>decide (m=v∧d≠v∧d≠a∧d ∉ x.tmps)
 |_,_=>false
def Op.free(o p:Op):Bool:=o.adr p || (!(o.ady p) && (o.still && p.still || o.k.pure || p.k.pure || o.far p))
def F5(bs:List Nat):Nat→List Op→Bool
 |_,[]=>true
 |i,o::r=>after i (i+1) o r && F5 bs (i+1) r
where
 after (i:Nat):Nat→Op→List Op→Bool
  |_,_,[]=>true
  |j,o,p::r=>(o.free p || (bs.getD j 0).testBit i) && after i (j+1) o r
def Db:Nat→List Oper→Bool
 |_,[]=>true
 |i,o::r=>(o.after.toList.all fun e => !Region.binds .any e || decide (e.on<i)) && Db (i+1) r
def F9(live:List Nat):Option Nat→List Op→cA
 |some j,xs=>match xs.drop j with
  |x::r => .gZ live (xs.take j) x r
  |[] => .cm live xs
 |none,xs => .cm live xs
def Ma(P:Program)(a:uc)(n:Nat)(id:Nat)(ops:Array Oper)(draw:Bool):Option cA :=
  if draw then
   let bs:=iE ops.toList []
   let tail:=zK bs
   match I4 P a n id ops tail 0 ops.toList with
   |some xs=>if F5 bs 0 (xs.take tail) && Db 0 ops.toList && xs.all (fun x=>x.k != .K7)then some (F9 (look id [] a.live) ((look id none a.fx).filter fun j=>decide (tail≤j)) xs)else none
   |none=>none
  else(I4 P a n id ops 0 0 ops.toList).map (F9 (look id [] a.live) (look id none a.fx))
def xQ(c:cA):List Nat→cA
 |[]=>c
 |vs => .seq (.ck vs) c
def AB:cA:=.cm [] [⟨none,none,false,.isn false false (.c .undef)⟩]
def IN:Code→Option (bE×List bE)
 |.region _ ops false =>
  match ops.toList with
  |[o]=>(match o.op,o.dst,o.guard with
   |.defer c,none,none=>(match c.callee with
    |.value f=>(match bA f,vJ c.args.toList with
     |some f',some xs=>some (f',xs)
     |_,_=>none)
    |_=>none)
   |_,_,_=>none)
  |_=>none
 |_=>none
def OZ(P:Program)(a:uc)(n:Nat):Code→Option (cA×bE×List bE)
 |.region id ops false =>
  match ops.toList with
  |[m,o]=>(match o.op,o.dst,o.guard,m.dst with
   |.defer c,none,none,some t=>(match c.callee with
    |.value f=>(match PA P a n id ops false 0 m,bA f,vJ c.args.toList with
     |some op,some f',some xs=>if op.k=.K7 then none else some (.cm (t::(xs.flatMap bE.tmps++look id [] a.live)) [op],f',xs)
     |_,_,_=>none)
    |_=>none)
   |_,_,_,_=>none)
  |_=>none
 |_=>none
def LW(a:uc)(n:Nat):Code→Option (Nat×Nat×Nat)
 |.loop (.seq (.region _ ops false) _) =>
  match ops.toList with
  |[o,p]=>(match o.op,o.dst,o.guard,p.op,p.dst,p.guard with
   |.next (.tmp it) false,some nx,none,.extract (.tmp nx') 0,some ok,none =>
    if nx'=nx∧nx<n∧ok<n∧nx≠ok∧nx ∉ a.dR∧ok ∉ a.dR then some (it,nx,ok)else none
   |_,_,_,_,_,_=>none)
  |_=>none
 |_=>none
def acg(a:uc)(n id:Nat)(x:Code)(x':cA):cA :=
 match LW a n x,x' with
 |some (it,nx,ok),.loop live _ (.seq _ c) => .iA live (.t it) nx ok id c .ep
 |_,x' => .bL id x'
def PF(P:Program)(a:uc)(n:Nat)(x:Code)(x' y':cA):cA :=
 match IN x with
 |some (f,xs) => .OY f xs y'
 |none =>
  match OZ P a n x with
  |some (c,f,xs) => .seq c (.OY f xs y')
  |none =>
  match x,x' with
  |.seq _ (.block _ _),.seq p' (.iA live it nx ok b c .ep) => .seq p' (.iA live it nx ok b c y')
  |_,_ => .seq x' y'
def GM(c:cA):cA:=match jh c with | some _=>AB | none => .seq .ep c
def bQ(P:Program)(a:uc)(n:Nat)(bL:Nat):Code→Option cA
 |.skip=>some .ep
 |.region id ops draw=>match Ma P a n id ops draw with
  |some c=>some (xQ c (look id [] a.fz))
  |none=>some AB
 |.seq x y=>match bQ P a n bL x,bQ P a n bL y with
  |some x',some y'=>some (PF P a n x x' y')
  |_,_=>none
 |.cond c x y=>match bA c,bQ P a n bL x,bQ P a n bL y with
  |some c',some x',some y'=>some (.ite c' x' y')
  |_,_,_=>none
 |.block id x=>(bQ P a n id x).map (acg a n id x)
 |.loop x=>(bQ P a n bL x).map (.loop (look bL [] a.ajp) (a.bk.contains bL))
 |.rangeFunc f ps x y=>match bA f,bQ P a n bL x,bQ P a n bL y with
  |some f',some x',some y'=>if ps.toList.all (fun t=>decide (t<n) && !(a.dR.contains t))then some (.Je (look bL [] a.ajp) f' ps.toList x' y')else none
  |_,_,_=>none
 |.exit id=>some (.exit id)
 |.ret=>some .ret
 |.scope x=>(bQ P a n bL x).map GM
 |.label _=>some .ep
 |_=>some AB
def acV(P:Program)(a:uc):ResultVar→Option CO
 |.tmp t=>some (.t t)
 |.cell x t=>match uw P t,c8 P t with
  |some g,some s=>if(g || s == 1) && decide (0<s)then some (if a.dR.contains x then .v x g s else .c x g s)else none
  |_,_=>none
def ET(P:Program)(a:uc):List ResultVar→Option (List CO)
 |[]=>some []
 |r::rs=>match acV P a r,ET P a rs with
  |some x,some xs=>some (x::xs)
  |_,_=>none
def fnC(P:Program)(a:uc)(f:Func):Option Fn :=
 match f.body with
 |some c=>match bQ P a f.ntmps 0 c,ET P a f.results.toList with
  |some c',some rs=>if f.params.size+f.nfree≤f.ntmps then some {L4:=f.params.size+f.nfree,res:=rs,body:=c' }else none
  |_,_=>none
 |none=>none
def Rd(w:World)(b o:Nat)(vs:List Value):Prop:=∀(j:Nat) x,vs[j]?=some x→w.cell? ⟨b,o+j,none⟩=some x
theorem Rd.take{w:World}{b o:Nat}{vs:List Value}(h:Rd w b o vs)(n:Nat):Rd w b o (vs.take n):=fun j x e=>h j x (by
 rw[eP]at e;split at e<;>simp_all)
theorem Rd.drop{w:World}{b o:Nat}{vs:List Value}(h:Rd w b o vs)(n:Nat):Rd w b (o+n) (vs.drop n):=fun j x e=>by
 have:=h (n+j) x (by rw[iQ]at e;exact e);rw[show o+n+j=o+(n+j)from by omega];exact this
theorem add_eq(b o n:Nat):Addr.add ⟨b,o,none⟩ n=⟨b,o+n,none⟩:=by
 unfold Addr.add;split
 ·subst_vars;rfl
 ·rfl
section types
variable {P:Program} {t:TypeId}
theorem run_typeInfo{i:TypeInfo}(h:P.info? t=some i)(w:World):(typeInfo t).run P w=.ok i w:=by
 simp[typeInfo,h]
theorem run_sizeOf{s:Nat}(h:c8 P t=some s)(w:World):(sizeOf t).run P w=.ok s w:=by
 simp only[c8,ab]at h;obtain⟨i,hi,rfl⟩:=h;simp[sizeOf,run_typeInfo hi]
theorem bd{d:TypeDesc}(h:P.underlying t=some d)(w:World):(underlying t).run P w=.ok d w:=by
 simp[underlying,h]
theorem Bs{b:Bool}(h:uw P t=some b)(w:World):(isAgg t).run P w=.ok b w:=by
 unfold uw at h;cases hu:P.underlying t with
 |none=>simp[hu]at h
 |some d =>
  rw[hu]at h;simp only[isAgg,Sem.run_bind,bd hu,Result.andThen_ok];cases d<;>simp_all
theorem gI{z:Value}{i:TypeInfo}(h:P.info? t=some i)(hz:i.zero=some z)(w:World):(zeroValue t).run P w=.ok z w:=by
 simp[zeroValue,run_typeInfo h,hz]
end types
theorem K1(g:G){v:Value}{d:D}(h:adk v=some d):bC g d v∧v.oneCell'=true:=by
 unfold adk at h;split at h<;>first | (cases h;exact⟨by constructor,rfl⟩) | cases h
theorem F6(g:G){vs:List Value}{ds:List D}(h:D2 vs=some ds):bz g ds vs∧∀x∈vs,x.oneCell'=true:=by
 induction vs generalizing ds with
 |nil=>simp only[D2,ad]at h;subst h;exact⟨.nil,by simp⟩
 |cons v vs ih =>
  simp only[D2]at h;split at h
  ·rename_i d ds' h1 h2;cases h;obtain⟨h3,h4⟩:=ih h2;obtain⟨h5,h6⟩:=K1 g h1;exact⟨.cons _ _ _ _ h5 h3,by simp only[bq];rintro x (rfl | hx);exact h6;exact h4 x hx⟩
  ·cases h
theorem F8(g:G){v:Value}{d:D}(h:IK v=some d):bC g d v:=by
 unfold IK at h;split at h
 ·rename_i cs;simp only[ab]at h;obtain⟨ds,h1,rfl⟩:=h;obtain⟨h2,h3⟩:=F6 g h1;exact .agg ds cs h2 h3
 ·exact(K1 g h).1
theorem sZ{P:Program}{t:TypeId}(g:G){z:List D}(h:rE P t=some z):∃i v,P.info? t=some i∧i.zero=some v∧bz g z v.cells.toList∧∀x∈v.cells.toList,x.oneCell'=true:=by
 unfold rE at h;split at h
 ·rename_i i hi;split at h
  ·rename_i v hv;obtain⟨h2,h3⟩:=F6 g h;exact⟨i,v,hi,hv,h2,h3⟩
  ·cases h
 ·cases h
theorem AT{P:Program}{t:TypeId}{w:World}{b o sz:Nat}{ag:Bool}{vs:List Value}(hag:uw P t=some ag)(hsz:c8 P t=some sz)(hone:(ag || sz == 1)=true)
  (hr:Rd w b o vs) (hlen:sz≤vs.length):
  ∃v,(loadVar t ⟨b,o,none⟩).run P w=.ok v w∧(if ag then v=.agg (vs.take sz).toArray else ∃x r,vs=x::r∧v=x):=by
 cases ag with
 |true =>
  have h1:(loadCells ⟨b,o,none⟩ sz).run P w=.ok (vs.take sz).toArray w:=by
   have:=run_loadCells_list (P:=P) w ⟨b,o,none⟩ (vs.take sz) (fun j v e=>by rw[add_eq];exact hr.take sz j v e);rwa[kT,Nat.min_eq_left hlen]at this
  exact⟨_,by simp[loadVar,Bs hag,run_sizeOf hsz,h1],rfl⟩
 |false =>
  simp only[Bool.false_or,beq_iff_eq]at hone;subst hone;cases vs with
  |nil=>simp at hlen
  |cons x r =>
   have:=hr 0 x rfl;exact⟨x,by simp only[Nat.add_zero]at this;simp[loadVar,Bs hag,this],x,r,rfl,rfl⟩
theorem wU{P:Program}{b:Nat}{el:TypeId}:∀(ps:List Value) (w:World) (o i:Nat) (c:Array Value),(∀x∈ps,x.oneCell'=true) →
  w.heap[b]?=some (.cells c el (0,0))→o+i+ps.length≤c.size →
  ∃w' c',(storeCells ⟨b,o,none⟩ ps i).run P w=.ok () w'∧w'.heap[b]?=some (.cells c' el (0,0))∧c'.size=c.size ∧
   (∀j,c'[j]?=if o+i≤j∧j<o+i+ps.length then ps[j-(o+i)]? else c[j]?) ∧
   (∀x,x≠b→w'.heap[x]?=w.heap[x]?)∧w'.heap.size=w.heap.size∧w'.os=w.os∧w'.tape=w.tape∧w'.output=w.output
 |[],w,o,i,c,_,hb,_=>⟨w,c,by simp[storeCells],hb,rfl,fun j=>by rw[if_neg (by simp only[bh];omega)],fun _ _=>rfl,rfl,rfl,rfl,rfl⟩
 |p::ps,w,o,i,c,h1,hb,hl=>by
  simp only[aD]at hl;have hp:=h1 p (by simp);have hcell:w.cell? ⟨b,o+i,none⟩=some (c[o+i]'(by omega)):=by
   simp only[World.cell?,hb];simp
  have hfz:w.frozen? ⟨b,o+i,none⟩=false:=by simp[World.frozen?,hb]
  have hb1:(w.setCell ⟨b,o+i,none⟩ p).heap[b]?=some (.cells (c.setIfInBounds (o+i) p) el (0,0)):=by
   simp[World.setCell,pn,hb]
  obtain⟨w',c',hrun,hb',hs,hc,ho,hsz,e1,e2,e3⟩:=wU ps (w.setCell ⟨b,o+i,none⟩ p) o (i+1) (c.setIfInBounds (o+i) p) (fun x hx=>h1 x (by simp[hx])) hb1 (by simp;omega);refine⟨w',c',?_,hb',by simpa using hs,?_,?_,by simpa using hsz,e1,e2,e3⟩
  ·simp only[storeCells,Sem.run_bind,add_eq,run_store P w _ p .plain hp,hcell,hfz];simpa using hrun
  ·intro j;rw[hc j];by_cases hj:j=o+i
   ·subst hj;rw[if_neg (by omega),if_pos (by simp)];rw[Array.getElem?_setIfInBounds_self_of_lt (by omega)];simp
   ·by_cases hj2:o+(i+1)≤j∧j<o+(i+1)+ps.length
    ·rw[if_pos hj2,if_pos (by simp;omega)];rw[show j-(o+i)=(j-(o+(i+1)))+1 from by omega];simp
    ·rw[if_neg hj2,if_neg (by simp;omega)];rw[Array.getElem?_setIfInBounds_ne (by omega)]
  ·intro x hx;rw[ho x hx];simp only[World.setCell,pn];rw[if_neg (by simpa using fun e=>hx e.symm)]
theorem DA{P:Program}{t:TypeId}{w:World}{b o sz:Nat}{el:TypeId}{c:Array Value}{v:Value}(hsz:c8 P t=some sz)(hv:v.cells.size=sz)
  (h1:∀x∈v.cells.toList,x.oneCell'=true) (hb:w.heap[b]?=some (.cells c el (0,0))) (hl:o+sz≤c.size):
  ∃w' c',(storeVar t ⟨b,o,none⟩ v).run P w=.ok () w'∧w'.heap[b]?=some (.cells c' el (0,0))∧c'.size=c.size ∧
   (∀j,c'[j]?=if o≤j∧j<o+sz then v.cells.toList[j-o]? else c[j]?) ∧
   (∀x,x≠b→w'.heap[x]?=w.heap[x]?)∧w'.heap.size=w.heap.size∧w'.os=w.os∧w'.tape=w.tape∧w'.output=w.output:=by
 obtain⟨w',c',hrun,rest⟩:=wU (P:=P) (b:=b) (el:=el) v.cells.toList w o 0 c h1 hb (by simp[hv];omega);refine⟨w',c',?_,?_⟩
 ·simp only[storeVar,Sem.run_bind,run_sizeOf hsz,Result.andThen_ok,hv];simpa using hrun
 ·simpa[hv]using rest
end Go.Abs
