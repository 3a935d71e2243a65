import Derived.Test.YtfgljaglidhjiaaGreatDoorBase0
import GoSem.Core.Program
import GoSem.Core.Layout
import Derived.Laws.Build
import Derived.Test.YtfgljaglidhjiaaGreatDoorBase1
set_option linter.all false
namespace Go.Abs
open Go
structure uh where
 live:List (Nat×List Nat)
 aly:List (Nat×List Nat)
 bw:List Nat
 af1:List Nat
 eA:List Nat
 nb:List (Nat×List (Nat×Nat))
 kp:List Nat
 fz:List (Nat×List Nat)
 qq:List Nat
 sx:List (Nat×Option (List Nat))
 fQ:List (Nat×Option Nat):=[]
def look{α:Type}(n:Nat)(d:α):List (Nat×α)→α
 |[]=>d
 |(k,v)::r=>if k=n then v else look n d r
def agF:Value→Option D
 |.bool b=>some (.bool b)
 |.int k n=>some (.int k n)
 |.string s=>some (.str s.data.toList)
 |.pointer none=>some .xc
 |.slice none 0 0=>some .aF
 |.nilFunc=>some .iP
 |.nilIface=>some .o6
 |.map none=>some .undef
 |_=>none
def Ez:List Value→Option (List D)
 |[]=>some []
 |v::vs=>match agF v,Ez vs with
  |some d,some ds=>some (d::ds)
  |_,_=>none
def Ji:Value→Option D
 |.agg cs=>(Ez cs.toList).map .agg
 |v=>agF v
def bD:Operand→Option bL
 |.tmp t=>some (.t t)
 |.const v=>(Ji v).map .c
 |.func f=>some (.c (.fn f [] []))
 |.global _=>none
def vU:List Operand→Option (List bL)
 |[]=>some []
 |x::xs=>match bD x,vU xs with
  |some y,some ys=>some (y::ys)
  |_,_=>none
def xe:Option Operand→Option (Option bL)
 |none=>some none
 |some x=>(bD x).map some
def dq(P:Program)(t:TypeId):Option Nat:=(P.info? t).map (·.size)
def uE(P:Program)(t:TypeId):Option Bool :=
 match P.underlying t with
 |some (.struct _) | some (.array _ _)=>some true
 |some _=>some false
 |none=>none
def rP(P:Program)(t:TypeId):Option (List D) :=
 match P.info? t with
 |some i=>match i.zero with
  |some z=>Ez z.cells.toList
  |none=>none
 |none=>none
def zQ:Operand→Bool
 |.const (.slice none 0 0)=>true
 |_=>false
def tZ(place:Nat→Option (Nat×Nat)):List (Nat×Operand)→Option (List (Nat×Nat×bL))
 |[]=>some []
 |(i,x)::r=>match place i,bD x,tZ place r with
  |some (o,s),some y,some r'=>some ((o,s,y)::r')
  |_,_,_=>none
def zM(P:Program)(fs:Array Field)(i:Nat):Option (Nat×Nat) :=
 match fs[i]? with
 |some f=>(dq P f.type).map fun s=>(f.offset,s)
 |none=>none
def mB(P:Program):Nat→TypeId→Option (List (Option IntKind))
 |0,_=>none
 |d+1,t =>
  match P.underlying t with
  |some (.int k)=>some [some k]
  |some .bool=>some [none]
  |some (.struct fs)=>if P.stoodInHeld t then none else kindsF P (mB P d) 0 fs.toList
  |some (.array n e)=>match mB P d e with
   |some ks=>if dq P e == some ks.length && decide (0<ks.length)then some ((List.range n).flatMap fun _=>ks)else none
   |none=>none
  |_=>none
where
 kindsF (P:Program) (f:TypeId→Option (List (Option IntKind))) (o:Nat):List Field→Option (List (Option IntKind))
  |[]=>some []
  |x::r=>match f x.type with
   |some ks=>if x.name ≠ "_" ∧ x.offset=o∧dq P x.type=some ks.length∧0<ks.length then(kindsF P f (o+ks.length) r).map (ks ++ ·)else none
   |none=>none
def zvC(P:Program)(t:TypeId):Option D :=
 match P.info? t with
 |some i=>match i.zero with
  |some z=>Ji z
  |none=>none
 |none=>none
def G7(P:Program)(t:TypeId):Option Ky :=
 match P.underlying t with
 |some .string=>some none
 |some (.int k)=>some (some (false,[some k]))
 |some (.struct fs) =>
  if fs.toList.all (fun f=>match P.underlying f.type with | some (.int _)=>true | some .bool=>true | _=>false)then
   (mB P 20 t).map fun ks=>some (true,ks)
  else none
 |_=>none
def eqC(P:Program)(b:BinOp)(t:TypeId)(x y:bL):Option K :=
 match mB P 20 t with
 |some ks=>if P.eqGuardType P.depth t then none else
  match b with
  |.eql=>(uE P t).map fun ag => .eqv ag ks false x y
  |.neq=>(uE P t).map fun ag => .eqv ag ks true x y
  |_=>none
 |none=>none
def Fx(ops:Array Oper):Nat→Nat→Nat
 |0,t=>t
 |n+1,t =>
  match ops.toList.find? (fun o=>o.dst == some t)with
  |some o=>match o.op with
   |.fieldAddr _ (.tmp x) _=>Fx ops n x
   |.indexAddr _ (.tmp x) _=>Fx ops n x
   |_=>t
  |none=>t
def aeG:Operand→Option Nat
 |.tmp t=>some t
 |_=>none
def isC(ps:Bool)(b:BinOp)(x:bL):Option K :=
 match b with
 |.eql=>some (.RQ ps false x)
 |.neq=>some (.RQ ps true x)
 |_=>none
def aef:TypeDesc→Bool
 |.slice _=>true
 |.string=>true
 |_=>false
def kC(P:Program)(a:uh)(ops:Array Oper)(key:Nat)(o:Oper):Option K :=
 match o.op with
 |.move x=>(bD x).map .mv
 |.assign x =>
  match zQ x,P.underlying o.type,o.dst with
  |true,some (.slice e),some d=>if a.af1.contains d then(dq P e).map .pq else(bD x).map .mv
  |_,_,_=>(bD x).map .mv
 |.pick c x y=>match bD c,bD x,bD y with
  |some c',some x',some y'=>some (.pick c' x' y')
  |_,_,_=>none
 |.alloc e=>match rP P e,o.dst with
  |some z,some d=>if a.kp.contains (2000000+key)then(match P.underlying e with
    |some (.struct fs)=>(match fs.toList with
     |[_,f]=>(match P.underlying f.type,z with
      |some (.slice b),[.xc,.aF]=>some (.mp (.lq e b) [])
      |_,_=>none)
     |_=>none)
    |_=>none)else some (if a.eA.contains d then .dY (look key [] a.nb) z else .HM (look key [] a.nb) z)
  |_,_=>none
 |.box _ x=>match bD x,o.dst with
  |some x',some d=>some (if a.eA.contains d then .Ey x' else if a.af1.contains d then(match look key [] a.nb with | [] => .HO x' | nb => .bxn nb x')else .HN x')
  |_,_=>none
 |.build t ps =>
  match P.underlying t,rP P t with
  |some (.struct fs),some z=>if fs.toList.all (fun f=>(dq P f.type).isSome)then(tZ (zM P fs) ps.toList).map (.lq z)else none
  |some (.array _ e),some z=>match dq P e with
   |some w=>(tZ (fun i=>some (i*w,w)) ps.toList).map (.lq z)
   |none=>none
  |_,_=>none
 |.buildSlice t n ps =>
  match P.underlying t with
  |some (.slice e) =>
   match dq P e,rP P e,o.dst with
   |some w,some z,some d =>
    if 0<w∧z.length=w∧n*w≤2^24 then
     (tZ (fun i=>some (i*w,w)) ps.toList).map fun p =>
      let zs:=(List.range n).flatMap fun _=>z
      if n=0 && ps.isEmpty && a.kp.contains (1000000+key)then .bse else if a.af1.contains d then .Kw n w zs p else .ur n w zs p
    else none
   |_,_,_=>none
  |_=>none
 |.load t x=>match uE P t,dq P t,bD x with
  |some g,some s,some (.t n)=>if(g || s == 1) && decide (0<s)then some (if a.eA.contains (Fx ops 8 n)then .RT (Fx ops 8 n) g s n else if a.qq.contains (Fx ops 8 n)then .RS g s (.t n)else if a.kp.contains (3000000+key)then .RR g s (.t n)else .ld g s (.t n))else none
  |_,_,_=>none
 |.store t x y=>match dq P t,bD x,bD y with
  |some s,some (.t n),some y'=>some (if a.eA.contains (Fx ops 8 n)then .FV (Fx ops 8 n) (look key [] a.nb) s n y' else(match look key none a.sx with | some os => .RG os s (.t n) y' | none => .st (look key [] a.nb) s (.t n) y'))
  |_,_,_=>none
 |.binOp b t x y _ =>
  match P.underlying t,bD x,bD y with
  |some (.int _),some x',some y'=>some (.bin b x' y')
  |some .bool,some x',some y'=>eqC P b t x' y'
  |some (.struct _),some x',some y'=>eqC P b t x' y'
  |some (.array _ _),some x',some y'=>eqC P b t x' y'
  |some .string,some x',some y'=>(match b with | .add=>some (.ri .RA [x',y']) | .eql=>some (.ri (.seq false) [x',y']) | .neq=>some (.ri (.seq true) [x',y']) | _=>none)
  |some (.pointer _),some x',some (.c .xc)=>isC true b x'
  |some (.pointer el),some x',some y'=>if(P.info? el).isSome then(match b with | .eql=>some (.me (.peq false) [x',y']) | .neq=>some (.me (.peq true) [x',y']) | _=>none)else none
  |some (.slice _),some x',some (.c .aF)=>isC false b x'
  |some (.interface _),some x',some (.c .o6)=>(match b,y with | .eql,.const .nilIface=>some (.isi false x') | .neq,.const .nilIface=>some (.isi true x') | _,_=>none)
  |_,_,_=>none
 |.nilCheck x=>(bD x).map .mo
 |.unOp b _ x=>(bD x).map (.un b)
 |.convert s d x =>
  match P.underlying s,P.underlying d,bD x with
  |some (.int _),some (.int k),some x'=>some (.KF k x')
  |some (.slice e),some .string,some x'=>(match P.underlying e,dq P e with | some (.int .u8),some 1=>some (.me .b2s [x']) | _,_=>none)
  |some .string,some (.slice e),some x'=>(match P.underlying e,dq P e with | some (.int .u8),some 1=>some (.me .s2b [x']) | _,_=>none)
  |some (.slice e),some (.slice _),some x'=>if s=d then(match P.underlying e with | some (.int .u8)=>some (.cvz x') | _=>none)else none
  |_,_,_=>none
 |.sliceToArrayPointer t x =>
  match P.underlying t,bD x with
  |some (.array n e),some x'=>(dq P e).map fun w => .me (.s2a n w) [x']
  |_,_=>none
 |.makeFunc (.func f) xs ys=>match vU xs.toList,vU ys.toList with
  |some xs',some ys'=>some (.xT f xs' ys')
  |_,_=>none
 |.makeSlice t x y =>
  match P.underlying t with
  |some (.slice e) =>
   match dq P e,(P.info? e).map (·.bytes),rP P e,bD x,bD y with
   |some w,some b,some z,some x',some y'=>if 0<w∧0<b then some (.mks w b z x' y')else none
   |_,_,_,_,_=>none
  |_=>none
 |.slice t x lo hi mx =>
  match P.underlying t,bD x,xe lo,xe hi,xe mx with
  |some (.slice e),some x',some lo',some hi',some mx'=>(dq P e).map fun w => .JV w x' lo' hi' mx'
  |some (.array n e),some x',some lo',some hi',some none=>(dq P e).map fun w => .M5 n w x' lo' hi'
  |some .string,some x',some lo',some hi',some none=>some (.ri (.H0 lo'.isSome hi'.isSome) (x'::(lo'.toList++hi'.toList)))
  |_,_,_,_,_=>none
 |.fieldAddr s x i =>
  match P.underlying s,bD x with
  |some (.struct fs),some x' =>
   match zM P fs i with
   |some (off,sz)=>if 0<sz then some (.HQ off x')else none
   |none=>none
  |_,_=>none
 |.field s x i =>
  match P.underlying s,bD x with
  |some (.struct fs),some x' =>
   match fs[i]? with
   |some f=>match uE P f.type,dq P f.type with
    |some g,some sz=>if g || sz == 1 then some (.fld g f.offset sz x')else none
    |_,_=>none
   |none=>none
  |_,_=>none
 |.indexAddr t x i =>
  match P.underlying t,bD x,bD i with
  |some (.array n e),some x',some i'=>(dq P e).map fun w => .Bc n w x' i'
  |some (.slice e),some x',some i'=>(dq P e).map fun w => .dP w x' i'
  |_,_,_=>none
 |.index t x i =>
  match P.underlying t,bD x,bD i with
  |some (.array n e),some x',some i'=>match uE P e,dq P e with
   |some g,some w=>if g || w == 1 then some (.Jt g n w x' i')else none
   |_,_=>none
  |some .string,some x',some i'=>some (.ri .Co [x',i'])
  |_,_,_=>none
 |.extract x i=>(bD x).map (.ext · i)
 |.call c =>
  match c.callee with
  |.value f=>match bD f,vU c.args.toList with
   |some f',some xs=>some (.call (a.kp.contains key) f' xs)
   |_,_=>none
  |.builtin .len =>
   match c.argTypes.toList,c.args.toList with
   |t::_,x::_=>match P.underlying t,bD x with
    |some (.slice _),some x'=>some (.HU x')
    |some .string,some x'=>some (.ri .zc [x'])
    |some (.map _ _),some x'=>some (.mp .len [x'])
    |some (.array n _),_=>some (.MM n)
    |some (.pointer r),_=>(match P.underlying r with | some (.array n _)=>some (.MM n) | _=>none)
    |_,_=>none
   |_,_=>none
  |.builtin .recover=>some .LX
  |.builtin .min=>match c.args.toList with
   |[x,y]=>(match bD x,bD y with | some x',some y'=>some (.mn x' y') | _,_=>none)
   |_=>none
  |.builtin .max=>match c.args.toList with
   |[x,y]=>(match bD x,bD y with | some x',some y'=>some (.mx x' y') | _,_=>none)
   |_=>none
  |.builtin .append =>
   match c.argTypes.toList,c.args.toList with
   |[t,u],[x,y]=>match P.underlying t,P.underlying u,bD x,bD y with
    |some (.slice e),some uu,some x',some y' =>
     if aef uu=true then(match dq P e,(P.info? e).map (·.bytes),rP P e with
     |some w,some b,some z=>if 0<w∧0<b∧b≤2^20∧z.length=w then
       some (if zQ x && !(o.dst.any a.af1.contains)then .cpi w b y' else if a.kp.contains (1000000+key) && (aeG x).isSome then .ape w b ((aeG x).getD 0) y' else if a.kp.contains key then .apz w b x' y' else(match look key none a.sx with | some os => .QC os w b x' y' | none => .app w b x' y'))else none
     |_,_,_=>none)else none
    |_,_,_,_=>none
   |_,_=>none
  |_=>none
 |.makeInterface t x=>if P.concrete t=true then(bD x).map (.mki t)else none
 |.typeAssert x _ t ok =>
  match P.underlying t,bD x with
  |some (.interface _),_=>none
  |some _,some x'=>if ok then(zvC P t).map fun z => .tas t (some z) x' else some (.tas t none x')
  |_,_=>none
 |.panic x=>(bD x).map .LW
 |.makeMap _ none=>some (.mp .make [])
 |.makeMap t (some (.const (.int _ _)))=>(match P.underlying t with | some (.map _ _)=>some (.mp .make []) | _=>none)
 |.range t x =>
  match P.underlying t,bD x with
  |some (.map _ _),some x'=>some (.mp .rng [x'])
  |_,_=>none
 |.entry x=>(match bD x with
  |some x'=>some (.mp .ent [x'])
  |none=>none)
 |.lookup t x i ok =>
  match P.underlying t,bD x,bD i with
  |some (.map kt et),some x',some i'=>(match G7 P kt,zvC P et with
   |some ky,some z=>some (.mp (.get ky z ok) [x',i'])
   |_,_=>none)
  |_,_,_=>none
 |.mapUpdate t m x y =>
  match P.underlying t,bD m,bD x,bD y with
  |some (.map kt _),some m',some x',some y'=>(match G7 P kt with
   |some ky=>some (.mp (.put ky) [m',x',y'])
   |none=>none)
  |_,_,_,_=>none
 |.insert t m x y =>
  match P.underlying t,bD m,bD x,bD y with
  |some (.map kt _),some m',some x',some y'=>(match G7 P kt with
   |some ky=>some (.mp (.put ky) [m',x',y'])
   |none=>none)
  |_,_,_,_=>none
 |_=>none
def K.makes:K→Bool
 |.dY .. => true
 |.Ey _=>true
 |_=>false
def K.avY:K→Bool
 |.FV .. => true
 |_=>false
def Rq(P:Program)(a:uh)(n cg:Nat)(ops:Array Oper)(Am:Bool)(i:Nat)(o:Oper):Option Op :=
 match kC P a ops (cg*1000+i) o with
 |some k =>
  match(match o.guard with
   |none=>some none
   |some (j,b)=>match(ops[j]?).bind (·.dst)with
    |some d=>some (some (d,b))
    |none=>none),(match o.dst with | some d=>decide (d<n) | none=>true)with
  |some g,true=>if(match o.dst with | some d => !(a.eA.contains d) || (k.makes && o.guard.isNone) | none => !k.makes) && (!k.avY || o.dst.isNone)then some {dst:=o.dst,C8:=g,Am,k }else none
  |_,_=>none
 |none=>none
def JC(P:Program)(a:uh)(n cg:Nat)(ops:Array Oper)(tail:Nat):Nat→List Oper→Option (List Op)
 |_,[]=>some []
 |i,o::r=>match Rq P a n cg ops (decide (i<tail) && !(a.kp.contains (cg*1000+i))) i o,JC P a n cg ops tail (i+1) r with
  |some x,some xs=>some (x::xs)
  |_,_=>none
def Mo.calm:Mo→Bool
 |.get .. => true
 |.len=>true
 |.ent=>true
 |_=>false
def K.calm:K→Bool
 |.st .. => false
 |.RG .. => false
 |.app .. => false
 |.QC .. => false
 |.apz .. => false
 |.cvz _=>false
 |.pq _=>false
 |.HM .. => false
 |.HO _=>false
 |.bxn .. => false
 |.Kw .. => false
 |.mks .. => false
 |.dY nb _=>nb.isEmpty
 |.FV _ nb _ _ _=>nb.isEmpty
 |.mp o _=>o.calm
 |.LW _=>false
 |.LX=>false
 |_=>true
def K.pure:K→Bool
 |.ld .. => false
 |.RR .. => false
 |.M5 .. => false
 |.cpi .. => false
 |.ape .. => false
 |.call .. => false
 |.mp .. => false
 |.me .. => false
 |k=>k.calm
def bL.tmps:bL→List Nat
 |.t n=>[n]
 |.c _=>[]
def K.tmps:K→List Nat
 |.mv x=>x.tmps
 |.pq _=>[]
 |.pick c a b=>c.tmps++a.tmps++b.tmps
 |.HM .. => []
 |.dY .. => []
 |.HN x=>x.tmps
 |.HO x=>x.tmps
 |.bxn _ x=>x.tmps
 |.Ey x=>x.tmps
 |.RT v _ _ a=>[v,a]
 |.FV v _ _ a x=>[v,a]++x.tmps
 |.lq _ ps=>ps.flatMap fun p=>p.2.2.tmps
 |.ur _ _ _ ps=>ps.flatMap fun p=>p.2.2.tmps
 |.Kw _ _ _ ps=>ps.flatMap fun p=>p.2.2.tmps
 |.ld _ _ a=>a.tmps
 |.RS _ _ a=>a.tmps
 |.RR _ _ a=>a.tmps
 |.RQ _ _ x=>x.tmps
 |.mo x=>x.tmps
 |.st _ _ a x=>a.tmps++x.tmps
 |.RG os _ a x=>a.tmps++x.tmps++os
 |.bin _ x y=>x.tmps++y.tmps
 |.eqv _ _ _ x y=>x.tmps++y.tmps
 |.un _ x=>x.tmps
 |.KF _ x=>x.tmps
 |.xT _ xs ys=>xs.flatMap bL.tmps++ys.flatMap bL.tmps
 |.mks _ _ _ l c=>l.tmps++c.tmps
 |.JV _ x lo hi m=>x.tmps++(lo.map bL.tmps).getD []++(hi.map bL.tmps).getD []++(m.map bL.tmps).getD []
 |.M5 _ _ x lo hi=>x.tmps++(lo.map bL.tmps).getD []++(hi.map bL.tmps).getD []
 |.HQ _ x=>x.tmps
 |.fld _ _ _ x=>x.tmps
 |.Bc _ _ x i=>x.tmps++i.tmps
 |.dP _ x i=>x.tmps++i.tmps
 |.Jt _ _ _ x i=>x.tmps++i.tmps
 |.HU x=>x.tmps
 |.MM _=>[]
 |.mn x y=>x.tmps++y.tmps
 |.mx x y=>x.tmps++y.tmps
 |.app _ _ s x=>s.tmps++x.tmps
 |.QC os _ _ s x=>s.tmps++x.tmps++os
 |.apz _ _ s x=>s.tmps++x.tmps
 |.cpi _ _ x=>x.tmps
 |.cvz x=>x.tmps
 |.bse=>[]
 |.ape _ _ v x=>v::x.tmps
 |.ext x _=>x.tmps
 |.ri _ xs=>xs.flatMap bL.tmps
 |.mp _ xs=>xs.flatMap bL.tmps
 |.me _ xs=>xs.flatMap bL.tmps
 |.mki _ x=>x.tmps
 |.tas _ _ x=>x.tmps
 |.isi _ x=>x.tmps
 |.LW x=>x.tmps
 |.LX=>[]
 |.call _ f xs=>f.tmps++xs.flatMap bL.tmps
def Op.Ed(o:Op):List Nat:=(match o.C8 with | some (g,_)=>[g] | none=>[])++o.k.tmps
def iV:List Oper→List Nat→List Nat
 |[],acc=>acc
 |o::r,acc=>iV r (acc++[o.after.toList.foldl (fun s e=>if Region.binds .any e then s ||| 2^e.on ||| acc.getD e.on 0 else s) 0])
def Ac(bs:List Nat):Nat :=
 go bs.length
where
 go:Nat→Nat
  |0=>0
  |n+1=>if bs.getD n 0=2^n-1 then go n else n+1
def Op.defs(o:Op):List Nat:=o.dst.toList++(match o.k with | .FV v _ _ _ _=>[v] | _=>[])
def Op.agS(o p:Op):Bool :=
 o.defs.any (fun d=>p.defs.contains d || p.Ed.contains d) || o.Ed.any (fun d=>p.defs.contains d)
def Op.still(op:Op):Bool:=op.k.calm && op.Am
def Op.far(o p:Op):Bool :=
 o.C8.isNone && p.C8.isNone &&
 match o.k,p.k with
 |.RG os _ _ _,.ld _ _ (.t m)=>os.contains m
 |.ld _ _ (.t m),.RG os _ _ _=>os.contains m
 |.RG os _ _ _,.RG _ _ (.t m) _=>os.contains m
 |.QC os _ _ _ _,.ld _ _ (.t m)=>os.contains m
 |.ld _ _ (.t _),.HM [] _=>true
 |.QC ..,.RR _ _ (.t _)=>true
 |_,_=>false
def Op.adr(o p:Op):Bool :=
 match o,p with
 |⟨none,none,_,.FV v [] _ a x⟩,⟨some d,none,_,.HQ _ (.t m)⟩=>decide (m=v∧d≠v∧d≠a∧d ∉ x.tmps)
 |_,_=>false
def Op.free(o p:Op):Bool:=o.adr p || (!(o.agS p) && (o.still && p.still || o.k.pure || p.k.pure || o.far p))
def GJ(bs:List Nat):Nat→List Op→Bool
 |_,[]=>true
 |i,o::r=>after i (i+1) o r && GJ bs (i+1) r
where
 after (i:Nat):Nat→Op→List Op→Bool
  |_,_,[]=>true
  |j,o,p::r=>(o.free p || (bs.getD j 0).testBit i) && after i (j+1) o r
def DI:Nat→List Oper→Bool
 |_,[]=>true
 |i,o::r=>(o.after.toList.all fun e => !Region.binds .any e || decide (e.on<i)) && DI (i+1) r
def GN(live:List Nat):Option Nat→List Op→cH
 |some j,xs=>match xs.drop j with
  |x::r => .iG live (xs.take j) x r
  |[] => .cg live xs
 |none,xs => .cg live xs
def MZ(P:Program)(a:uh)(n:Nat)(id:Nat)(ops:Array Oper)(draw:Bool):Option cH :=
  if draw then
   let bs:=iV ops.toList []
   let tail:=Ac bs
   match JC P a n id ops tail 0 ops.toList with
   |some xs=>if GJ bs 0 (xs.take tail) && DI 0 ops.toList && xs.all (fun x=>x.k != .LX)then some (GN (look id [] a.live) ((look id none a.fQ).filter fun j=>decide (tail≤j)) xs)else none
   |none=>none
  else(JC P a n id ops 0 0 ops.toList).map (GN (look id [] a.live) (look id none a.fQ))
def yc(c:cH):List Nat→cH
 |[]=>c
 |vs => .seq (.cz vs) c
def A8:cH:=.cg [] [⟨none,none,false,.RQ false false (.c .undef)⟩]
def Jn:Code→Option (bL×List bL)
 |.region _ ops false =>
  match ops.toList with
  |[o]=>(match o.op,o.dst,o.guard with
   |.defer c,none,none=>(match c.callee with
    |.value f=>(match bD f,vU c.args.toList with
     |some f',some xs=>some (f',xs)
     |_,_=>none)
    |_=>none)
   |_,_,_=>none)
  |_=>none
 |_=>none
def QO(P:Program)(a:uh)(n:Nat):Code→Option (cH×bL×List bL)
 |.region id ops false =>
  match ops.toList with
  |[m,o]=>(match o.op,o.dst,o.guard,m.dst with
   |.defer c,none,none,some t=>(match c.callee with
    |.value f=>(match Rq P a n id ops false 0 m,bD f,vU c.args.toList with
     |some op,some f',some xs=>if op.k=.LX then none else some (.cg (t::(xs.flatMap bL.tmps++look id [] a.live)) [op],f',xs)
     |_,_,_=>none)
    |_=>none)
   |_,_,_,_=>none)
  |_=>none
 |_=>none
def MP(a:uh)(n:Nat):Code→Option (Nat×Nat×Nat)
 |.loop (.seq (.region _ ops false) _) =>
  match ops.toList with
  |[o,p]=>(match o.op,o.dst,o.guard,p.op,p.dst,p.guard with
   |.next (.tmp it) false,some nx,none,.extract (.tmp nx') 0,some ok,none =>
    if nx'=nx∧nx<n∧ok<n∧nx≠ok∧nx ∉ a.eA∧ok ∉ a.eA then some (it,nx,ok)else none
   |_,_,_,_,_,_=>none)
  |_=>none
 |_=>none
def afA(a:uh)(n id:Nat)(x:Code)(x':cH):cH :=
 match MP a n x,x' with
 |some (it,nx,ok),.loop live _ (.seq _ c) => .iS live (.t it) nx ok id c .dQ
 |_,x' => .bO id x'
def RB(P:Program)(a:uh)(n:Nat)(x:Code)(x' y':cH):cH :=
 match Jn x with
 |some (f,xs) => .QN f xs y'
 |none =>
  match QO P a n x with
  |some (c,f,xs) => .seq c (.QN f xs y')
  |none =>
  match x,x' with
  |.seq _ (.block _ _),.seq p' (.iS live it nx ok b c .dQ) => .seq p' (.iS live it nx ok b c y')
  |_,_ => .seq x' y'
def Hq(c:cH):cH:=match jz c with | some _=>A8 | none => .seq .dQ c
def bW(P:Program)(a:uh)(n:Nat)(bO:Nat):Code→Option cH
 |.skip=>some .dQ
 |.region id ops draw=>match MZ P a n id ops draw with
  |some c=>some (yc c (look id [] a.fz))
  |none=>some A8
 |.seq x y=>match bW P a n bO x,bW P a n bO y with
  |some x',some y'=>some (RB P a n x x' y')
  |_,_=>none
 |.cond c x y=>match bD c,bW P a n bO x,bW P a n bO y with
  |some c',some x',some y'=>some (.ite c' x' y')
  |_,_,_=>none
 |.block id x=>(bW P a n id x).map (afA a n id x)
 |.loop x=>(bW P a n bO x).map (.loop (look bO [] a.aly) (a.bw.contains bO))
 |.rangeFunc f ps x y=>match bD f,bW P a n bO x,bW P a n bO y with
  |some f',some x',some y'=>if ps.toList.all (fun t=>decide (t<n) && !(a.eA.contains t))then some (.JO (look bO [] a.aly) f' ps.toList x' y')else none
  |_,_,_=>none
 |.exit id=>some (.exit id)
 |.ret=>some .ret
 |.scope x=>(bW P a n bO x).map Hq
 |.label _=>some .dQ
 |_=>some A8
def agf(P:Program)(a:uh):ResultVar→Option Dn
 |.tmp t=>some (.t t)
 |.cell x t=>match uE P t,dq P t with
  |some g,some s=>if(g || s == 1) && decide (0<s)then some (if a.eA.contains x then .v x g s else .c x g s)else none
  |_,_=>none
def Fw(P:Program)(a:uh):List ResultVar→Option (List Dn)
 |[]=>some []
 |r::rs=>match agf P a r,Fw P a rs with
  |some x,some xs=>some (x::xs)
  |_,_=>none
def fnC(P:Program)(a:uh)(f:Func):Option Fn :=
 match f.body with
 |some c=>match bW P a f.ntmps 0 c,Fw P a f.results.toList with
  |some c',some rs=>if f.params.size+f.nfree≤f.ntmps then some {MT:=f.params.size+f.nfree,res:=rs,body:=c' }else none
  |_,_=>none
 |none=>none
def Rd(w:World)(b o:Nat)(vs:List Value):Prop:=∀(j:Nat) x,vs[j]?=some x→w.cell? ⟨b,o+j,none⟩=some x
theorem Rd.take{w:World}{b o:Nat}{vs:List Value}(h:Rd w b o vs)(n:Nat):Rd w b o (vs.take n):=fun j x e=>h j x (by
 rw[eh]at e;split at e<;>simp_all)
theorem Rd.drop{w:World}{b o:Nat}{vs:List Value}(h:Rd w b o vs)(n:Nat):Rd w b (o+n) (vs.drop n):=fun j x e=>by
 have:=h (n+j) x (by rw[eg]at e;exact e);rw[show o+n+j=o+(n+j)from by omega];exact this
theorem add_eq(b o n:Nat):Addr.add ⟨b,o,none⟩ n=⟨b,o+n,none⟩:=by
 unfold Addr.add;split
 ·subst_vars;rfl
 ·rfl
section types
variable {P:Program} {t:TypeId}
theorem run_typeInfo{i:TypeInfo}(h:P.info? t=some i)(w:World):(typeInfo t).run P w=.ok i w:=by
 simp[typeInfo,h]
theorem run_sizeOf{s:Nat}(h:dq P t=some s)(w:World):(sizeOf t).run P w=.ok s w:=by
 simp only[dq,ad]at h;obtain⟨i,hi,rfl⟩:=h;simp[sizeOf,run_typeInfo hi]
theorem bg{d:TypeDesc}(h:P.underlying t=some d)(w:World):(underlying t).run P w=.ok d w:=by
 simp[underlying,h]
theorem BU{b:Bool}(h:uE P t=some b)(w:World):(isAgg t).run P w=.ok b w:=by
 unfold uE at h;cases hu:P.underlying t with
 |none=>simp[hu]at h
 |some d =>
  rw[hu]at h;simp only[isAgg,Sem.run_bind,bg hu,Result.andThen_ok];cases d<;>simp_all
theorem ia{z:Value}{i:TypeInfo}(h:P.info? t=some i)(hz:i.zero=some z)(w:World):(zeroValue t).run P w=.ok z w:=by
 simp[zeroValue,run_typeInfo h,hz]
end types
theorem LQ(g:G){v:Value}{d:D}(h:agF v=some d):bI g d v∧v.oneCell'=true:=by
 unfold agF at h;split at h<;>first | (cases h;exact⟨by constructor,rfl⟩) | cases h
theorem GK(g:G){vs:List Value}{ds:List D}(h:Ez vs=some ds):bC g ds vs∧∀x∈vs,x.oneCell'=true:=by
 induction vs generalizing ds with
 |nil=>simp only[Ez,ae]at h;subst h;exact⟨.nil,by simp⟩
 |cons v vs ih =>
  simp only[Ez]at h;split at h
  ·rename_i d ds' h1 h2;cases h;obtain⟨h3,h4⟩:=ih h2;obtain⟨h5,h6⟩:=LQ g h1;exact⟨.cons _ _ _ _ h5 h3,by simp only[aW];rintro x (rfl | hx);exact h6;exact h4 x hx⟩
  ·cases h
theorem GM(g:G){v:Value}{d:D}(h:Ji v=some d):bI g d v:=by
 unfold Ji at h;split at h
 ·rename_i cs;simp only[ad]at h;obtain⟨ds,h1,rfl⟩:=h;obtain⟨h2,h3⟩:=GK g h1;exact .agg ds cs h2 h3
 ·exact(LQ g h).1
theorem tn{P:Program}{t:TypeId}(g:G){z:List D}(h:rP P t=some z):∃i v,P.info? t=some i∧i.zero=some v∧bC g z v.cells.toList∧∀x∈v.cells.toList,x.oneCell'=true:=by
 unfold rP at h;split at h
 ·rename_i i hi;split at h
  ·rename_i v hv;obtain⟨h2,h3⟩:=GK g h;exact⟨i,v,hi,hv,h2,h3⟩
  ·cases h
 ·cases h
theorem Bq{P:Program}{t:TypeId}{w:World}{b o sz:Nat}{ag:Bool}{vs:List Value}(hag:uE P t=some ag)(hsz:dq P t=some sz)(hone:(ag || sz == 1)=true)
  (hr:Rd w b o vs) (hlen:sz≤vs.length):
  ∃v,(loadVar t ⟨b,o,none⟩).run P w=.ok v w∧(if ag then v=.agg (vs.take sz).toArray else ∃x r,vs=x::r∧v=x):=by
 cases ag with
 |true =>
  have h1:(loadCells ⟨b,o,none⟩ sz).run P w=.ok (vs.take sz).toArray w:=by
   have:=run_loadCells_list (P:=P) w ⟨b,o,none⟩ (vs.take sz) (fun j v e=>by rw[add_eq];exact hr.take sz j v e);rwa[lA,Nat.min_eq_left hlen]at this
  exact⟨_,by simp[loadVar,BU hag,run_sizeOf hsz,h1],rfl⟩
 |false =>
  simp only[Bool.false_or,beq_iff_eq]at hone;subst hone;cases vs with
  |nil=>simp at hlen
  |cons x r =>
   have:=hr 0 x rfl;exact⟨x,by simp only[Nat.add_zero]at this;simp[loadVar,BU hag,this],x,r,rfl,rfl⟩
theorem xj{P:Program}{b:Nat}{el:TypeId}:∀(ps:List Value) (w:World) (o i:Nat) (c:Array Value),(∀x∈ps,x.oneCell'=true) →
  w.heap[b]?=some (.cells c el (0,0))→o+i+ps.length≤c.size →
  ∃w' c',(storeCells ⟨b,o,none⟩ ps i).run P w=.ok () w'∧w'.heap[b]?=some (.cells c' el (0,0))∧c'.size=c.size ∧
   (∀j,c'[j]?=if o+i≤j∧j<o+i+ps.length then ps[j-(o+i)]? else c[j]?) ∧
   (∀x,x≠b→w'.heap[x]?=w.heap[x]?)∧w'.heap.size=w.heap.size∧w'.os=w.os∧w'.tape=w.tape∧w'.output=w.output
 |[],w,o,i,c,_,hb,_=>⟨w,c,by simp[storeCells],hb,rfl,fun j=>by rw[if_neg (by simp only[bE];omega)],fun _ _=>rfl,rfl,rfl,rfl,rfl⟩
 |p::ps,w,o,i,c,h1,hb,hl=>by
  simp only[aL]at hl;have hp:=h1 p (by simp);have hcell:w.cell? ⟨b,o+i,none⟩=some (c[o+i]'(by omega)):=by
   simp only[World.cell?,hb];simp
  have hfz:w.frozen? ⟨b,o+i,none⟩=false:=by simp[World.frozen?,hb]
  have hb1:(w.setCell ⟨b,o+i,none⟩ p).heap[b]?=some (.cells (c.setIfInBounds (o+i) p) el (0,0)):=by
   simp[World.setCell,eN,hb]
  obtain⟨w',c',hrun,hb',hs,hc,ho,hsz,e1,e2,e3⟩:=xj ps (w.setCell ⟨b,o+i,none⟩ p) o (i+1) (c.setIfInBounds (o+i) p) (fun x hx=>h1 x (by simp[hx])) hb1 (by simp;omega);refine⟨w',c',?_,hb',by simpa using hs,?_,?_,by simpa using hsz,e1,e2,e3⟩
  ·simp only[storeCells,Sem.run_bind,add_eq,run_store P w _ p .plain hp,hcell,hfz];simpa using hrun
  ·intro j;rw[hc j];by_cases hj:j=o+i
   ·subst hj;rw[if_neg (by omega),if_pos (by simp)];rw[Array.getElem?_setIfInBounds_self_of_lt (by omega)];simp
   ·by_cases hj2:o+(i+1)≤j∧j<o+(i+1)+ps.length
    ·rw[if_pos hj2,if_pos (by simp;omega)];rw[show j-(o+i)=(j-(o+(i+1)))+1 from by omega];simp
    ·rw[if_neg hj2,if_neg (by simp;omega)];rw[Array.getElem?_setIfInBounds_ne (by omega)]
  ·intro x hx;rw[ho x hx];simp only[World.setCell,eN];rw[if_neg (by simpa using fun e=>hx e.symm)]
theorem D6{P:Program}{t:TypeId}{w:World}{b o sz:Nat}{el:TypeId}{c:Array Value}{v:Value}(hsz:dq P t=some sz)(hv:v.cells.size=sz)
  (h1:∀x∈v.cells.toList,x.oneCell'=true) (hb:w.heap[b]?=some (.cells c el (0,0))) (hl:o+sz≤c.size):
  ∃w' c',(storeVar t ⟨b,o,none⟩ v).run P w=.ok () w'∧w'.heap[b]?=some (.cells c' el (0,0))∧c'.size=c.size ∧
   (∀j,c'[j]?=if o≤j∧j<o+sz then v.cells.toList[j-o]? else c[j]?) ∧
   (∀x,x≠b→w'.heap[x]?=w.heap[x]?)∧w'.heap.size=w.heap.size∧w'.os=w.os∧w'.tape=w.tape∧w'.output=w.output:=by
 obtain⟨w',c',hrun,rest⟩:=xj (P:=P) (b:=b) (el:=el) v.cells.toList w o 0 c h1 hb (by simp[hv];omega);refine⟨w',c',?_,?_⟩
 ·simp only[storeVar,Sem.run_bind,run_sizeOf hsz,Result.andThen_ok,hv];simpa using hrun
 ·simpa[hv]using rest
end Go.Abs
