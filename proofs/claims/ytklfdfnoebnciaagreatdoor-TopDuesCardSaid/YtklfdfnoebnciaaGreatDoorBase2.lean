import GoSem.Core.Program
import GoSem.Core.Layout
import Derived.Laws.Build
import Derived.Test.YtklfdfnoebnciaaGreatDoorBase1
set_option linter.all false
namespace Go.az
open Go
structure tW where
 live:List (Nat×List Nat)
 Vb:List (Nat×List Nat)
 bk:List Nat
 T6:List Nat
 cZ:List Nat
 nb:List (Nat×List (Nat×Nat))
 kp:List Nat
 fz:List (Nat×List Nat)
 oc:List Nat
 sx:List (Nat×Option (List Nat))
 eA:List (Nat×Option Nat):=[]
def look{α:Type}(n:Nat)(d:α):List (Nat×α)->α
 |[]=>d
 |(k,v)::r=>if k=n then v else look n d r
def UM:Value->Option D
 |.bool b=>some (.bool b)
 |.int k n=>some (.int k n)
 |.string s=>some (.str s.data.toList)
 |.pointer none=>some .wN
 |.slice none 0 0=>some .bN
 |.nilFunc=>some .pR
 |.nilIface=>some .oD
 |.map none=>some .undef
 |_=>none
def D7:List Value->Option (List D)
 |[]=>some []
 |v::vs=>match UM v,D7 vs with
  |some d,some ds=>some (d::ds)
  |_,_=>none
def I1:Value->Option D
 |.agg cs=>(D7 cs.toList).map .agg
 |v=>UM v
def bC:Operand->Option bD
 |.tmp t=>some (.t t)
 |.const v=>(I1 v).map .c
 |.func f=>some (.c (.fn f [] []))
 |.global _=>none
def vF:List Operand->Option (List bD)
 |[]=>some []
 |x::xs=>match bC x,vF xs with
  |some y,some ys=>some (y::ys)
  |_,_=>none
def wP:Option Operand->Option (Option bD)
 |none=>some none
 |some x=>(bC x).map some
def cH(P:Program)(t:TypeId):Option Nat:=(P.info? t).map (·.size)
def uh(P:Program)(t:TypeId):Option Bool :=
 match P.underlying t with
 |some (.struct _) | some (.array _ _)=>some true
 |some _=>some false
 |none=>none
def rA(P:Program)(t:TypeId):Option (List D) :=
 match P.info? t with
 |some i=>match i.zero with
  |some z=>D7 z.cells.toList
  |none=>none
 |none=>none
def zw:Operand->Bool
 |.const (.slice none 0 0)=>true
 |_=>false
def tO(place:Nat->Option (Nat×Nat)):List (Nat×Operand)->Option (List (Nat×Nat×bD))
 |[]=>some []
 |(i,x)::r=>match place i,bC x,tO place r with
  |some (o,s),some y,some r'=>some ((o,s,y)::r')
  |_,_,_=>none
def zq(P:Program)(fs:Array Field)(i:Nat):Option (Nat×Nat) :=
 match fs[i]? with
 |some f=>(cH P f.type).map λs=>(f.offset,s)
 |none=>none
def kV(P:Program):Nat->TypeId->Option (List (Option IntKind))
 |0,_=>none
 |d+1,t =>
  match P.underlying t with
  |some (.int k)=>some [some k]
  |some .bool=>some [none]
  |some (.struct fs)=>if P.stoodInHeld t then none else kindsF P (kV P d) 0 fs.toList
  |some (.array n e)=>match kV P d e with
   |some ks=>if cH P e == some ks.length && decide (0<ks.length)then some ((List.range n).flatMap λ_=>ks)else none
   |none=>none
  |_=>none
where
 kindsF (P:Program) (f:TypeId->Option (List (Option IntKind))) (o:Nat):List Field->Option (List (Option IntKind))
  |[]=>some []
  |x::r=>match f x.type with
   |some ks=>if x.name ≠ "_" /\ x.offset=o/\cH P x.type=some ks.length/\0<ks.length then(kindsF P f (o+ks.length) r).map (ks ++ ·)else none
   |none=>none
def Y4(P:Program)(t:TypeId):Option D :=
 match P.info? t with
 |some i=>match i.zero with
  |some z=>I1 z
  |none=>none
 |none=>none
def GB(P:Program)(t:TypeId):Option Ky :=
 match P.underlying t with
 |some .string=>some none
 |some (.int k)=>some (some (false,[some k]))
 |some (.struct fs) =>
  if fs.toList.all (λf=>match P.underlying f.type with | some (.int _)=>true | some .bool=>true | _=>false)then
   (kV P 20 t).map λks=>some (true,ks)
  else none
 |_=>none
def WB(P:Program)(b:BinOp)(t:TypeId)(x y:bD):Option K :=
 match kV P 20 t with
 |some ks=>if P.eqGuardType P.depth t then none else
  match b with
  |.eql=>(uh P t).map λag => .eqv ag ks false x y
  |.neq=>(uh P t).map λag => .eqv ag ks true x y
  |_=>none
 |none=>none
def E0(ops:Array Oper):Nat->Nat->Nat
 |0,t=>t
 |n+1,t =>
  match ops.toList.find? (λo=>o.dst == some t)with
  |some o=>match o.op with
   |.fieldAddr _ (.tmp x) _=>E0 ops n x
   |.indexAddr _ (.tmp x) _=>E0 ops n x
   |_=>t
  |none=>t
def SB:Operand->Option Nat
 |.tmp t=>some t
 |_=>none
def SH(ps:Bool)(b:BinOp)(x:bD):Option K :=
 match b with
 |.eql=>some (.TV ps false x)
 |.neq=>some (.TV ps true x)
 |_=>none
def R4:TypeDesc->Bool
 |.slice _=>true
 |.string=>true
 |_=>false
def kC(P:Program)(a:tW)(ops:Array Oper)(key:Nat)(o:Oper):Option K :=
 match o.op with
 |.move x=>(bC x).map .mv
 |.assign x =>
  match zw x,P.underlying o.type,o.dst with
  |true,some (.slice e),some d=>if a.T6.contains d then(cH P e).map .GJ else(bC x).map .mv
  |_,_,_=>(bC x).map .mv
 |.pick c x y=>match bC c,bC x,bC y with
  |some c',some x',some y'=>some (.pick c' x' y')
  |_,_,_=>none
 |.alloc e=>match rA P e,o.dst with
  |some z,some d=>if a.kp.contains (2000000+key)then(match P.underlying e with
    |some (.struct fs)=>(match fs.toList with
     |[_,f]=>(match P.underlying f.type,z with
      |some (.slice b),[.wN,.bN]=>some (.mp (.IZ e b) [])
      |_,_=>none)
     |_=>none)
    |_=>none)else some (if a.cZ.contains d then .Ag (look key [] a.nb) z else .Ox (look key [] a.nb) z)
  |_,_=>none
 |.box _ x=>match bC x,o.dst with
  |some x',some d=>some (if a.cZ.contains d then .D6 x' else if a.T6.contains d then(match look key [] a.nb with | [] => .Ho x' | nb => .SG nb x')else .Hn x')
  |_,_=>none
 |.build t ps =>
  match P.underlying t,rA P t with
  |some (.struct fs),some z=>if fs.toList.all (λf=>(cH P f.type).isSome)then(tO (zq P fs) ps.toList).map (.IZ z)else none
  |some (.array _ e),some z=>match cH P e with
   |some w=>(tO (λi=>some (i*w,w)) ps.toList).map (.IZ z)
   |none=>none
  |_,_=>none
 |.buildSlice t n ps =>
  match P.underlying t with
  |some (.slice e) =>
   match cH P e,rA P e,o.dst with
   |some w,some z,some d =>
    if 0<w/\z.length=w/\n*w<=2^24 then
     (tO (λi=>some (i*w,w)) ps.toList).map λp =>
      let zs:=(List.range n).flatMap λ_=>z
      if n=0 && ps.isEmpty && a.kp.contains (1000000+key)then .Yi else if a.T6.contains d then .QH n w zs p else .TE n w zs p
    else none
   |_,_,_=>none
  |_=>none
 |.load t x=>match uh P t,cH P t,bC x with
  |some g,some s,some (.t n)=>if(g || s == 1) && decide (0<s)then some (if a.cZ.contains (E0 ops 8 n)then .PE (E0 ops 8 n) g s n else if(a.oc.contains (E0 ops 8 n) || a.kp.contains (4000000+key))then .T1 g s (.t n)else if a.kp.contains (3000000+key)then .PD g s (.t n)else .ld g s (.t n))else none
  |_,_,_=>none
 |.store t x y=>match cH P t,bC x,bC y with
  |some s,some (.t n),some y'=>some (if a.cZ.contains (E0 ops 8 n)then .G6 (E0 ops 8 n) (look key [] a.nb) s n y' else(match look key none a.sx with | some os => .Pv os s (.t n) y' | none => .st (look key [] a.nb) s (.t n) y'))
  |_,_,_=>none
 |.binOp b t x y _ =>
  match P.underlying t,bC x,bC y with
  |some (.int _),some x',some y'=>some (.bin b x' y')
  |some .bool,some x',some y'=>WB P b t x' y'
  |some (.struct _),some x',some y'=>WB P b t x' y'
  |some (.array _ _),some x',some y'=>WB P b t x' y'
  |some .string,some x',some y'=>(match b with | .add=>some (.Im .X2 [x',y']) | .eql=>some (.Im (.seq false) [x',y']) | .neq=>some (.Im (.seq true) [x',y']) | _=>none)
  |some (.pointer _),some x',some (.c .wN)=>SH true b x'
  |some (.pointer el),some x',some y'=>if(P.info? el).isSome then(match b with | .eql=>some (.me (.peq false) [x',y']) | .neq=>some (.me (.peq true) [x',y']) | _=>none)else none
  |some (.slice _),some x',some (.c .bN)=>SH false b x'
  |some (.interface _),some x',some (.c .oD)=>(match b,y with | .eql,.const .nilIface=>some (.TU false x') | .neq,.const .nilIface=>some (.TU true x') | _,_=>none)
  |_,_,_=>none
 |.nilCheck x=>(bC x).map .T7
 |.unOp b _ x=>(bC x).map (.un b)
 |.convert s d x =>
  match P.underlying s,P.underlying d,bC x with
  |some (.int _),some (.int k),some x'=>some (.QN k x')
  |some (.slice e),some .string,some x'=>(match P.underlying e,cH P e with | some (.int .u8),some 1=>some (.me .b2s [x']) | _,_=>none)
  |some .string,some (.slice e),some x'=>(match P.underlying e,cH P e with | some (.int .u8),some 1=>some (.me .s2b [x']) | _,_=>none)
  |some (.slice e),some (.slice _),some x'=>if s=d then(match P.underlying e with | some (.int .u8)=>some (.Wx x') | _=>none)else none
  |_,_,_=>none
 |.sliceToArrayPointer t x =>
  match P.underlying t,bC x with
  |some (.array n e),some x'=>(cH P e).map λw => .me (.s2a n w) [x']
  |_,_=>none
 |.makeFunc (.func f) xs ys=>match vF xs.toList,vF ys.toList with
  |some xs',some ys'=>some (.Rz f xs' ys')
  |_,_=>none
 |.makeSlice t x y =>
  match P.underlying t with
  |some (.slice e) =>
   match cH P e,(P.info? e).map (·.bytes),rA P e,bC x,bC y with
   |some w,some b,some z,some x',some y'=>if 0<w/\0<b then some (.RB w b z x' y')else none
   |_,_,_,_,_=>none
  |_=>none
 |.slice t x lo hi mx =>
  match P.underlying t,bC x,wP lo,wP hi,wP mx with
  |some (.slice e),some x',some lo',some hi',some mx'=>(cH P e).map λw => .SL w x' lo' hi' mx'
  |some (.array n e),some x',some lo',some hi',some none=>(cH P e).map λw => .MB n w x' lo' hi'
  |some .string,some x',some lo',some hi',some none=>some (.Im (.ME lo'.isSome hi'.isSome) (x'::(lo'.toList++hi'.toList)))
  |_,_,_,_,_=>none
 |.fieldAddr s x i =>
  match P.underlying s,bC x with
  |some (.struct fs),some x' =>
   match zq P fs i with
   |some (off,sz)=>if 0<sz then some (.Hq off x')else none
   |none=>none
  |_,_=>none
 |.field s x i =>
  match P.underlying s,bC x with
  |some (.struct fs),some x' =>
   match fs[i]? with
   |some f=>match uh P f.type,cH P f.type with
    |some g,some sz=>if g || sz == 1 then some (.Yr g f.offset sz x')else none
    |_,_=>none
   |none=>none
  |_,_=>none
 |.indexAddr t x i =>
  match P.underlying t,bC x,bC i with
  |some (.array n e),some x',some i'=>(cH P e).map λw => .Fh n w x' i'
  |some (.slice e),some x',some i'=>(cH P e).map λw => .Fi w x' i'
  |_,_,_=>none
 |.index t x i =>
  match P.underlying t,bC x,bC i with
  |some (.array n e),some x',some i'=>match uh P e,cH P e with
   |some g,some w=>if g || w == 1 then some (.Je g n w x' i')else none
   |_,_=>none
  |some .string,some x',some i'=>some (.Im .MA [x',i'])
  |_,_,_=>none
 |.extract x i=>(bC x).map (.ext · i)
 |.call c =>
  match c.callee with
  |.value f=>match bC f,vF c.args.toList with
   |some f',some xs=>some (.call (a.kp.contains key) f' xs)
   |_,_=>none
  |.builtin .len =>
   match c.argTypes.toList,c.args.toList with
   |t::_,x::_=>match P.underlying t,bC x with
    |some (.slice _),some x'=>some (.Hv x')
    |some .string,some x'=>some (.Im .Si [x'])
    |some (.map _ _),some x'=>some (.mp .len [x'])
    |some (.array n _),_=>some (.Mf n)
    |some (.pointer r),_=>(match P.underlying r with | some (.array n _)=>some (.Mf n) | _=>none)
    |_,_=>none
   |_,_=>none
  |.builtin .recover=>some .Lp
  |.builtin .min=>match c.args.toList with
   |[x,y]=>(match bC x,bC y with | some x',some y'=>some (.mn x' y') | _,_=>none)
   |_=>none
  |.builtin .max=>match c.args.toList with
   |[x,y]=>(match bC x,bC y with | some x',some y'=>some (.mx x' y') | _,_=>none)
   |_=>none
  |.builtin .append =>
   match c.argTypes.toList,c.args.toList with
   |[t,u],[x,y]=>match P.underlying t,P.underlying u,bC x,bC y with
    |some (.slice e),some uu,some x',some y' =>
     if R4 uu=true then(match cH P e,(P.info? e).map (·.bytes),rA P e with
     |some w,some b,some z=>if 0<w/\0<b/\b<=2^20/\z.length=w then
       some (if zw x && !(o.dst.any a.T6.contains)then .Wt w b y' else if a.kp.contains (1000000+key) && (SB x).isSome then .Wn w b ((SB x).getD 0) y' else if a.kp.contains key then .SF w b x' y' else(match look key none a.sx with | some os => .Oy os w b x' y' | none => .app w b x' y'))else none
     |_,_,_=>none)else none
    |_,_,_,_=>none
   |_,_=>none
  |_=>none
 |.makeInterface t x=>if P.concrete t=true then(bC x).map (.RA t)else none
 |.typeAssert x _ t ok =>
  match P.underlying t,bC x with
  |some (.interface _),_=>none
  |some _,some x'=>if ok then(Y4 P t).map λz => .SO t (some z) x' else some (.SO t none x')
  |_,_=>none
 |.panic x=>(bC x).map .RM
 |.makeMap _ none=>some (.mp .make [])
 |.makeMap t (some (.const (.int _ _)))=>(match P.underlying t with | some (.map _ _)=>some (.mp .make []) | _=>none)
 |.range t x =>
  match P.underlying t,bC x with
  |some (.map _ _),some x'=>some (.mp .rng [x'])
  |_,_=>none
 |.entry x=>(match bC x with
  |some x'=>some (.mp .Yn [x'])
  |none=>none)
 |.lookup t x i ok =>
  match P.underlying t,bC x,bC i with
  |some (.map kt et),some x',some i'=>(match GB P kt,Y4 P et with
   |some ky,some z=>some (.mp (.get ky z ok) [x',i'])
   |_,_=>none)
  |_,_,_=>none
 |.mapUpdate t m x y =>
  match P.underlying t,bC m,bC x,bC y with
  |some (.map kt _),some m',some x',some y'=>(match GB P kt with
   |some ky=>some (.mp (.put ky) [m',x',y'])
   |none=>none)
  |_,_,_,_=>none
 |.insert t m x y =>
  match P.underlying t,bC m,bC x,bC y with
  |some (.map kt _),some m',some x',some y'=>(match GB P kt with
   |some ky=>some (.mp (.put ky) [m',x',y'])
   |none=>none)
  |_,_,_,_=>none
 |_=>none
def K.makes:K->Bool
 |.Ag .. => true
 |.D6 _=>true
 |_=>false
def K.aa5:K->Bool
 |.G6 .. => true
 |_=>false
def Pg(P:Program)(a:tW)(n sy:Nat)(ops:Array Oper)(zZ:Bool)(i:Nat)(o:Oper):Option Op :=
 match kC P a ops (sy*1000+i) o with
 |some k =>
  match(match o.guard with
   |none=>some none
   |some (j,b)=>match(ops[j]?).bind (·.dst)with
    |some d=>some (some (d,b))
    |none=>none),(match o.dst with | some d=>decide (d<n) | none=>true)with
  |some g,true=>if(match o.dst with | some d => !(a.cZ.contains d) || (k.makes && o.guard.isNone) | none => !k.makes) && (!k.aa5 || o.dst.isNone)then some {dst:=o.dst,CE:=g,zZ,k }else none
  |_,_=>none
 |none=>none
def Jl(P:Program)(a:tW)(n sy:Nat)(ops:Array Oper)(tail:Nat):Nat->List Oper->Option (List Op)
 |_,[]=>some []
 |i,o::r=>match Pg P a n sy ops (decide (i<tail) && !(a.kp.contains (sy*1000+i))) i o,Jl P a n sy ops tail (i+1) r with
  |some x,some xs=>some (x::xs)
  |_,_=>none
def Mo.calm:Mo->Bool
 |.get .. => true
 |.len=>true
 |.Yn=>true
 |_=>false
def K.calm:K->Bool
 |.st .. => false
 |.Pv .. => false
 |.app .. => false
 |.Oy .. => false
 |.SF .. => false
 |.Wx _=>false
 |.GJ _=>false
 |.Ox .. => false
 |.Ho _=>false
 |.SG .. => false
 |.QH .. => false
 |.RB .. => false
 |.Ag nb _=>nb.isEmpty
 |.G6 _ nb _ _ _=>nb.isEmpty
 |.mp o _=>o.calm
 |.RM _=>false
 |.Lp=>false
 |_=>true
def K.pure:K->Bool
 |.ld .. => false
 |.PD .. => false
 |.MB .. => false
 |.Wt .. => false
 |.Wn .. => false
 |.call .. => false
 |.mp .. => false
 |.me .. => false
 |k=>k.calm
def bD.tmps:bD->List Nat
 |.t n=>[n]
 |.c _=>[]
def K.tmps:K->List Nat
 |.mv x=>x.tmps
 |.GJ _=>[]
 |.pick c a b=>c.tmps++a.tmps++b.tmps
 |.Ox .. => []
 |.Ag .. => []
 |.Hn x=>x.tmps
 |.Ho x=>x.tmps
 |.SG _ x=>x.tmps
 |.D6 x=>x.tmps
 |.PE v _ _ a=>[v,a]
 |.G6 v _ _ a x=>[v,a]++x.tmps
 |.IZ _ ps=>ps.flatMap λp=>p.2.2.tmps
 |.TE _ _ _ ps=>ps.flatMap λp=>p.2.2.tmps
 |.QH _ _ _ ps=>ps.flatMap λp=>p.2.2.tmps
 |.ld _ _ a=>a.tmps
 |.T1 _ _ a=>a.tmps
 |.PD _ _ a=>a.tmps
 |.TV _ _ x=>x.tmps
 |.T7 x=>x.tmps
 |.st _ _ a x=>a.tmps++x.tmps
 |.Pv os _ a x=>a.tmps++x.tmps++os
 |.bin _ x y=>x.tmps++y.tmps
 |.eqv _ _ _ x y=>x.tmps++y.tmps
 |.un _ x=>x.tmps
 |.QN _ x=>x.tmps
 |.Rz _ xs ys=>xs.flatMap bD.tmps++ys.flatMap bD.tmps
 |.RB _ _ _ l c=>l.tmps++c.tmps
 |.SL _ x lo hi m=>x.tmps++(lo.map bD.tmps).getD []++(hi.map bD.tmps).getD []++(m.map bD.tmps).getD []
 |.MB _ _ x lo hi=>x.tmps++(lo.map bD.tmps).getD []++(hi.map bD.tmps).getD []
 |.Hq _ x=>x.tmps
 |.Yr _ _ _ x=>x.tmps
 |.Fh _ _ x i=>x.tmps++i.tmps
 |.Fi _ x i=>x.tmps++i.tmps
 |.Je _ _ _ x i=>x.tmps++i.tmps
 |.Hv x=>x.tmps
 |.Mf _=>[]
 |.mn x y=>x.tmps++y.tmps
 |.mx x y=>x.tmps++y.tmps
 |.app _ _ s x=>s.tmps++x.tmps
 |.Oy os _ _ s x=>s.tmps++x.tmps++os
 |.SF _ _ s x=>s.tmps++x.tmps
 |.Wt _ _ x=>x.tmps
 |.Wx x=>x.tmps
 |.Yi=>[]
 |.Wn _ _ v x=>v::x.tmps
 |.ext x _=>x.tmps
 |.Im _ xs=>xs.flatMap bD.tmps
 |.mp _ xs=>xs.flatMap bD.tmps
 |.me _ xs=>xs.flatMap bD.tmps
 |.RA _ x=>x.tmps
 |.SO _ _ x=>x.tmps
 |.TU _ x=>x.tmps
 |.RM x=>x.tmps
 |.Lp=>[]
 |.call _ f xs=>f.tmps++xs.flatMap bD.tmps
def Op.DN(o:Op):List Nat:=(match o.CE with | some (g,_)=>[g] | none=>[])++o.k.tmps
def gI:List Oper->List Nat->List Nat
 |[],acc=>acc
 |o::r,acc=>gI r (acc++[o.after.toList.foldl (λs e=>if Region.binds .any e then s ||| 2^e.on ||| acc.getD e.on 0 else s) 0])
def zM(bs:List Nat):Nat :=
 go bs.length
where
 go:Nat->Nat
  |0=>0
  |n+1=>if bs.getD n 0=2^n-1 then go n else n+1
def Op.defs(o:Op):List Nat:=o.dst.toList++(match o.k with | .G6 v _ _ _ _=>[v] | _=>[])
def Op.U0(o p:Op):Bool :=
 o.defs.any (λd=>p.defs.contains d || p.DN.contains d) || o.DN.any (λd=>p.defs.contains d)
def Op.still(op:Op):Bool:=op.k.calm && op.zZ
def Op.U5(o p:Op):Bool :=
 o.CE.isNone && p.CE.isNone &&
 match o.k,p.k with
 |.Pv os _ _ _,.ld _ _ (.t m)=>os.contains m
 |.ld _ _ (.t m),.Pv os _ _ _=>os.contains m
 |.Pv os _ _ _,.Pv _ _ (.t m) _=>os.contains m
 |.Oy os _ _ _ _,.ld _ _ (.t m)=>os.contains m
 |.ld _ _ (.t _),.Ox [] _=>true
 |.Oy ..,.PD _ _ (.t _)=>true
 |_,_=>false
def Op.adr(o p:Op):Bool :=
 match o,p with
 |⟨none,none,_,.G6 v [] _ a x⟩,⟨some d,none,_,.Hq _ (.t m)⟩=>decide (m=v/\d≠v/\d≠a/\d ∉ x.tmps)
 |_,_=>false
def Op.free(o p:Op):Bool:=o.adr p || (!(o.U0 p) && (o.still && p.still || o.k.pure || p.k.pure || o.U5 p))
def Gh(bs:List Nat):Nat->List Op->Bool
 |_,[]=>true
 |i,o::r=>after i (i+1) o r && Gh bs (i+1) r
where
 after (i:Nat):Nat->Op->List Op->Bool
  |_,_,[]=>true
  |j,o,p::r=>(o.free p || (bs.getD j 0).testBit i) && after i (j+1) o r
def Dg:Nat->List Oper->Bool
 |_,[]=>true
 |i,o::r=>(o.after.toList.all λe => !Region.binds .any e || decide (e.on<i)) && Dg (i+1) r
def Gl(live:List Nat):Option Nat->List Op->bX
 |some j,xs=>match xs.drop j with
  |x::r => .Lh live (xs.take j) x r
  |[] => .sy live xs
 |none,xs => .sy live xs
def Mt(P:Program)(a:tW)(n:Nat)(id:Nat)(ops:Array Oper)(draw:Bool):Option bX :=
  if draw then
   let bs:=gI ops.toList []
   let tail:=zM bs
   match Jl P a n id ops tail 0 ops.toList with
   |some xs=>if Gh bs 0 (xs.take tail) && Dg 0 ops.toList && xs.all (λx=>x.k != .Lp)then some (Gl (look id [] a.live) ((look id none a.eA).filter λj=>decide (tail<=j)) xs)else none
   |none=>none
  else(Jl P a n id ops 0 0 ops.toList).map (Gl (look id [] a.live) (look id none a.eA))
def xR(c:bX):List Nat->bX
 |[]=>c
 |vs => .seq (.cn vs) c
def AH:bX:=.sy [] [⟨none,none,false,.TV false false (.c .undef)⟩]
def I4:Code->Option (bD×List bD)
 |.region _ ops false =>
  match ops.toList with
  |[o]=>(match o.op,o.dst,o.guard with
   |.defer c,none,none=>(match c.callee with
    |.value f=>(match bC f,vF c.args.toList with
     |some f',some xs=>some (f',xs)
     |_,_=>none)
    |_=>none)
   |_,_,_=>none)
  |_=>none
 |_=>none
def OJ(P:Program)(a:tW)(n:Nat):Code->Option (bX×bD×List bD)
 |.region id ops false =>
  match ops.toList with
  |[m,o]=>(match o.op,o.dst,o.guard,m.dst with
   |.defer c,none,none,some t=>(match c.callee with
    |.value f=>(match Pg P a n id ops false 0 m,bC f,vF c.args.toList with
     |some op,some f',some xs=>if op.k=.Lp then none else some (.sy (t::(xs.flatMap bD.tmps++look id [] a.live)) [op],f',xs)
     |_,_,_=>none)
    |_=>none)
   |_,_,_,_=>none)
  |_=>none
 |_=>none
def Mi(a:tW)(n:Nat):Code->Option (Nat×Nat×Nat)
 |.loop (.seq (.region _ ops false) _) =>
  match ops.toList with
  |[o,p]=>(match o.op,o.dst,o.guard,p.op,p.dst,p.guard with
   |.next (.tmp it) false,some nx,none,.extract (.tmp nx') 0,some ok,none =>
    if nx'=nx/\nx<n/\ok<n/\nx≠ok/\nx ∉ a.cZ/\ok ∉ a.cZ then some (it,nx,ok)else none
   |_,_,_,_,_,_=>none)
  |_=>none
 |_=>none
def TC(a:tW)(n id:Nat)(x:Code)(x':bX):bX :=
 match Mi a n x,x' with
 |some (it,nx,ok),.loop live _ (.seq _ c) => .gv live (.t it) nx ok id c .FB
 |_,x' => .cT id x'
def Uu(a:tW):Code->Bool
 |.region id ops _=>a.bk.contains (1000000+id) && decide (2<ops.size)
 |.seq (.region id ops _) (.cond ..)=>a.bk.contains (2000000+id) && decide (2<ops.size)
 |_=>false
def Po(P:Program)(a:tW)(n:Nat)(x:Code)(x' y':bX):bX :=
 match I4 x with
 |some (f,xs) => .OI f xs y'
 |none =>
  match OJ P a n x with
  |some (c,f,xs) => .seq c (.OI f xs y')
  |none =>
  match x,x' with
  |.seq _ (.block _ _),.seq p' (.gv live it nx ok b c .FB) => .seq p' (.gv live it nx ok b c y')
  |_,_ => .seq x' (if Uu a x then .VC y' else y')
def GZ(c:bX):bX:=match gG c with | some _=>AH | none => .seq .FB c
def bQ(P:Program)(a:tW)(n:Nat)(cT:Nat):Code->Option bX
 |.skip=>some .FB
 |.region id ops draw=>match Mt P a n id ops draw with
  |some c=>some (xR c (look id [] a.fz))
  |none=>some AH
 |.seq x y=>match bQ P a n cT x,bQ P a n cT y with
  |some x',some y'=>some (Po P a n x x' y')
  |_,_=>none
 |.cond c x y=>match bC c,bQ P a n cT x,bQ P a n cT y with
  |some c',some x',some y'=>some (.ite c' x' y')
  |_,_,_=>none
 |.block id x=>(bQ P a n id x).map (TC a n id x)
 |.loop x=>(bQ P a n cT x).map (.loop (look cT [] a.Vb) (a.bk.contains cT))
 |.rangeFunc f ps x y=>match bC f,bQ P a n cT x,bQ P a n cT y with
  |some f',some x',some y'=>if ps.toList.all (λt=>decide (t<n) && !(a.cZ.contains t))then some (.Jw (look cT [] a.Vb) f' ps.toList x' y')else none
  |_,_,_=>none
 |.exit id=>some (.exit id)
 |.ret=>some .ret
 |.scope x=>(bQ P a n cT x).map GZ
 |.label _=>some .FB
 |_=>some AH
def Uo(P:Program)(a:tW):ResultVar->Option CQ
 |.tmp t=>some (.t t)
 |.cell x t=>match uh P t,cH P t with
  |some g,some s=>if(g || s == 1) && decide (0<s)then some (if a.cZ.contains x then .v x g s else .c x g s)else none
  |_,_=>none
def EZ(P:Program)(a:tW):List ResultVar->Option (List CQ)
 |[]=>some []
 |r::rs=>match Uo P a r,EZ P a rs with
  |some x,some xs=>some (x::xs)
  |_,_=>none
def fnC(P:Program)(a:tW)(f:Func):Option Fn :=
 match f.body with
 |some c=>match bQ P a f.ntmps 0 c,EZ P a f.results.toList with
  |some c',some rs=>if f.params.size+f.nfree<=f.ntmps then some {Mm:=f.params.size+f.nfree,res:=rs,body:=c' }else none
  |_,_=>none
 |none=>none
def Rd(w:World)(b o:Nat)(vs:List Value):Prop:=∀(j:Nat) x,vs[j]?=some x->w.cell? ⟨b,o+j,none⟩=some x
theorem Rd.take{w:World}{b o:Nat}{vs:List Value}(h:Rd w b o vs)(n:Nat):Rd w b o (vs.take n):=λj x e=>h j x (by
 rw[dS]at e;split at e<;>simp_all)
theorem Rd.drop{w:World}{b o:Nat}{vs:List Value}(h:Rd w b o vs)(n:Nat):Rd w b (o+n) (vs.drop n):=λj x e=>by
 have:=h (n+j) x (by rw[gY]at e;exact e);rw[show o+n+j=o+(n+j)from by omega];exact this
theorem add_eq(b o n:Nat):Addr.add ⟨b,o,none⟩ n=⟨b,o+n,none⟩:=by
 unfold Addr.add;split
 .subst_vars;rfl
 .rfl
section types
variable {P:Program} {t:TypeId}
theorem run_typeInfo{i:TypeInfo}(h:P.info? t=some i)(w:World):(typeInfo t).run P w=.ok i w:=by
 simp[typeInfo,h]
theorem run_sizeOf{s:Nat}(h:cH P t=some s)(w:World):(sizeOf t).run P w=.ok s w:=by
 simp only[cH,ab]at h;obtain⟨i,hi,rfl⟩:=h;simp[sizeOf,run_typeInfo hi]
theorem bf{d:TypeDesc}(h:P.underlying t=some d)(w:World):(underlying t).run P w=.ok d w:=by
 simp[underlying,h]
theorem By{b:Bool}(h:uh P t=some b)(w:World):(isAgg t).run P w=.ok b w:=by
 unfold uh at h;cases hu:P.underlying t with
 |none=>simp[hu]at h
 |some d =>
  rw[hu]at h;simp only[isAgg,Sem.run_bind,bf hu,Result.andThen_ok];cases d<;>simp_all
theorem fK{z:Value}{i:TypeInfo}(h:P.info? t=some i)(hz:i.zero=some z)(w:World):(zeroValue t).run P w=.ok z w:=by
 simp[zeroValue,run_typeInfo h,hz]
end types
theorem Lk(g:G){v:Value}{d:D}(h:UM v=some d):bB g d v/\v.oneCell'=true:=by
 unfold UM at h;split at h<;>first | (cases h;exact⟨by constructor,rfl⟩) | cases h
theorem Gi(g:G){vs:List Value}{ds:List D}(h:D7 vs=some ds):bA g ds vs/\∀x∈vs,x.oneCell'=true:=by
 induction vs generalizing ds with
 |nil=>simp only[D7,ad]at h;subst h;exact⟨.nil,by simp⟩
 |cons v vs ih =>
  simp only[D7]at h;split at h
  .rename_i d ds' h1 h2;cases h;obtain⟨h3,h4⟩:=ih h2;obtain⟨h5,h6⟩:=Lk g h1;exact⟨.cons _ _ _ _ h5 h3,by simp only[bw];rintro x (rfl | hx);exact h6;exact h4 x hx⟩
  .cases h
theorem Gk(g:G){v:Value}{d:D}(h:I1 v=some d):bB g d v:=by
 unfold I1 at h;split at h
 .rename_i cs;simp only[ab]at h;obtain⟨ds,h1,rfl⟩:=h;obtain⟨h2,h3⟩:=Gi g h1;exact .agg ds cs h2 h3
 .exact(Lk g h).1
theorem sW{P:Program}{t:TypeId}(g:G){z:List D}(h:rA P t=some z):∃i v,P.info? t=some i/\i.zero=some v/\bA g z v.cells.toList/\∀x∈v.cells.toList,x.oneCell'=true:=by
 unfold rA at h;split at h
 .rename_i i hi;split at h
  .rename_i v hv;obtain⟨h2,h3⟩:=Gi g h;exact⟨i,v,hi,hv,h2,h3⟩
  .cases h
 .cases h
theorem AY{P:Program}{t:TypeId}{w:World}{b o sz:Nat}{ag:Bool}{vs:List Value}(hag:uh P t=some ag)(hsz:cH P t=some sz)(hone:(ag || sz == 1)=true)
  (hr:Rd w b o vs) (hlen:sz<=vs.length):
  ∃v,(loadVar t ⟨b,o,none⟩).run P w=.ok v w/\(if ag then v=.agg (vs.take sz).toArray else ∃x r,vs=x::r/\v=x):=by
 cases ag with
 |true =>
  have h1:(loadCells ⟨b,o,none⟩ sz).run P w=.ok (vs.take sz).toArray w:=by
   have:=run_loadCells_list (P:=P) w ⟨b,o,none⟩ (vs.take sz) (λj v e=>by rw[add_eq];exact hr.take sz j v e);rwa[jV,Nat.min_eq_left hlen]at this
  exact⟨_,by simp[loadVar,By hag,run_sizeOf hsz,h1],rfl⟩
 |false =>
  simp only[Bool.false_or,beq_iff_eq]at hone;subst hone;cases vs with
  |nil=>simp at hlen
  |cons x r =>
   have:=hr 0 x rfl;exact⟨x,by simp only[Nat.add_zero]at this;simp[loadVar,By hag,this],x,r,rfl,rfl⟩
theorem wT{P:Program}{b:Nat}{el:TypeId}:∀(ps:List Value) (w:World) (o i:Nat) (c:Array Value),(∀x∈ps,x.oneCell'=true) ->
  w.heap[b]?=some (.cells c el (0,0))->o+i+ps.length<=c.size ->
  ∃w' c',(storeCells ⟨b,o,none⟩ ps i).run P w=.ok () w'/\w'.heap[b]?=some (.cells c' el (0,0))/\c'.size=c.size /\
   (∀j,c'[j]?=if o+i<=j/\j<o+i+ps.length then ps[j-(o+i)]? else c[j]?) /\
   (∀x,x≠b->w'.heap[x]?=w.heap[x]?)/\w'.heap.size=w.heap.size/\w'.os=w.os/\w'.tape=w.tape/\w'.output=w.output
 |[],w,o,i,c,_,hb,_=>⟨w,c,by simp[storeCells],hb,rfl,λj=>by rw[if_neg (by simp only[bj];omega)],λ_ _=>rfl,rfl,rfl,rfl,rfl⟩
 |p::ps,w,o,i,c,h1,hb,hl=>by
  simp only[aF]at hl;have hp:=h1 p (by simp);have hcell:w.cell? ⟨b,o+i,none⟩=some (c[o+i]'(by omega)):=by
   simp only[World.cell?,hb];simp
  have hfz:w.frozen? ⟨b,o+i,none⟩=false:=by simp[World.frozen?,hb]
  have hb1:(w.setCell ⟨b,o+i,none⟩ p).heap[b]?=some (.cells (c.setIfInBounds (o+i) p) el (0,0)):=by
   simp[World.setCell,oK,hb]
  obtain⟨w',c',hrun,hb',hs,hc,ho,hsz,e1,e2,e3⟩:=wT ps (w.setCell ⟨b,o+i,none⟩ p) o (i+1) (c.setIfInBounds (o+i) p) (λx hx=>h1 x (by simp[hx])) hb1 (by simp;omega);refine⟨w',c',?_,hb',by simpa using hs,?_,?_,by simpa using hsz,e1,e2,e3⟩
  .simp only[storeCells,Sem.run_bind,add_eq,run_store P w _ p .plain hp,hcell,hfz];simpa using hrun
  .intro j;rw[hc j];by_cases hj:j=o+i
   .subst hj;rw[if_neg (by omega),if_pos (by simp)];rw[Array.getElem?_setIfInBounds_self_of_lt (by omega)];simp
   .by_cases hj2:o+(i+1)<=j/\j<o+(i+1)+ps.length
    .rw[if_pos hj2,if_pos (by simp;omega)];rw[show j-(o+i)=(j-(o+(i+1)))+1 from by omega];simp
    .rw[if_neg hj2,if_neg (by simp;omega)];rw[Array.getElem?_setIfInBounds_ne (by omega)]
  .intro x hx;rw[ho x hx];simp only[World.setCell,oK];rw[if_neg (by simpa using λe=>hx e.symm)]
theorem DF{P:Program}{t:TypeId}{w:World}{b o sz:Nat}{el:TypeId}{c:Array Value}{v:Value}(hsz:cH P t=some sz)(hv:v.cells.size=sz)
  (h1:∀x∈v.cells.toList,x.oneCell'=true) (hb:w.heap[b]?=some (.cells c el (0,0))) (hl:o+sz<=c.size):
  ∃w' c',(storeVar t ⟨b,o,none⟩ v).run P w=.ok () w'/\w'.heap[b]?=some (.cells c' el (0,0))/\c'.size=c.size /\
   (∀j,c'[j]?=if o<=j/\j<o+sz then v.cells.toList[j-o]? else c[j]?) /\
   (∀x,x≠b->w'.heap[x]?=w.heap[x]?)/\w'.heap.size=w.heap.size/\w'.os=w.os/\w'.tape=w.tape/\w'.output=w.output:=by
 obtain⟨w',c',hrun,rest⟩:=wT (P:=P) (b:=b) (el:=el) v.cells.toList w o 0 c h1 hb (by simp[hv];omega);refine⟨w',c',?_,?_⟩
 .simp only[storeVar,Sem.run_bind,run_sizeOf hsz,Result.andThen_ok,hv];simpa using hrun
 .simpa[hv]using rest
end Go.az
