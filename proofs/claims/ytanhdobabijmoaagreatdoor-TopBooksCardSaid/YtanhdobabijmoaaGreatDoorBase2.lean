import GoSem.Core.Program
import GoSem.Core.Layout
import Derived.Laws.Build
import Derived.Test.YtanhdobabijmoaaGreatDoorBase1
set_option linter.all false
namespace Go.aA
open Go
structure ux where
 live:List (Nat×List Nat)
 Y5:List (Nat×List Nat)
 bB:List Nat
 XP:List Nat
 dF:List Nat
 nb:List (Nat×List (Nat×Nat))
 kp:List Nat
 fz:List (Nat×List Nat)
 pM:List Nat
 sx:List (Nat×Option (List Nat))
 fp:List (Nat×Option Nat):=[]
def look{α:Type}(n:Nat)(d:α):List (Nat×α)->α
 |[]=>d
 |(k,v)::r=>if k=n then v else look n d r
def YE:Value->Option D
 |.bool b=>some (.bool b)
 |.int k n=>some (.int k n)
 |.string s=>some (.str s.data.toList)
 |.pointer none=>some .xU
 |.slice none 0 0=>some .bP
 |.nilFunc=>some .se
 |.nilIface=>some .oI
 |.map none=>some .undef
 |_=>none
def F0:List Value->Option (List D)
 |[]=>some []
 |v::vs=>match YE v,F0 vs with
  |some d,some ds=>some (d::ds)
  |_,_=>none
def Lp:Value->Option D
 |.agg cs=>(F0 cs.toList).map .agg
 |v=>YE v
def bG:Operand->Option bI
 |.tmp t=>some (.t t)
 |.const v=>(Lp v).map .c
 |.func f=>some (.c (.fn f [] []))
 |.global _=>none
def xr:List Operand->Option (List bI)
 |[]=>some []
 |x::xs=>match bG x,xr xs with
  |some y,some ys=>some (y::ys)
  |_,_=>none
def yI:Option Operand->Option (Option bI)
 |none=>some none
 |some x=>(bG x).map some
def de(P:Program)(t:TypeId):Option Nat:=(P.info? t).map (·.size)
def vD(P:Program)(t:TypeId):Option Bool :=
 match P.underlying t with
 |some (.struct _) | some (.array _ _)=>some true
 |some _=>some false
 |none=>none
def sY(P:Program)(t:TypeId):Option (List D) :=
 match P.info? t with
 |some i=>match i.zero with
  |some z=>F0 z.cells.toList
  |none=>none
 |none=>none
def Bm:Operand->Bool
 |.const (.slice none 0 0)=>true
 |_=>false
def ve(place:Nat->Option (Nat×Nat)):List (Nat×Operand)->Option (List (Nat×Nat×bI))
 |[]=>some []
 |(i,x)::r=>match place i,bG x,ve place r with
  |some (o,s),some y,some r'=>some ((o,s,y)::r')
  |_,_,_=>none
def Bh(P:Program)(fs:Array Field)(i:Nat):Option (Nat×Nat) :=
 match fs[i]? with
 |some f=>(de P f.type).map λs=>(f.offset,s)
 |none=>none
def mj(P:Program):Nat->TypeId->Option (List (Option IntKind))
 |0,_=>none
 |d+1,t =>
  match P.underlying t with
  |some (.int k)=>some [some k]
  |some .bool=>some [none]
  |some (.struct fs)=>if P.stoodInHeld t then none else kindsF P (mj P d) 0 fs.toList
  |some (.array n e)=>match mj P d e with
   |some ks=>if de P e == some ks.length && decide (0<ks.length)then some ((List.range n).flatMap λ_=>ks)else none
   |none=>none
  |_=>none
where
 kindsF (P:Program) (f:TypeId->Option (List (Option IntKind))) (o:Nat):List Field->Option (List (Option IntKind))
  |[]=>some []
  |x::r=>match f x.type with
   |some ks=>if x.name ≠ "_" /\ x.offset=o/\de P x.type=some ks.length/\0<ks.length then(kindsF P f (o+ks.length) r).map (ks ++ ·)else none
   |none=>none
def zvC(P:Program)(t:TypeId):Option D :=
 match P.info? t with
 |some i=>match i.zero with
  |some z=>Lp z
  |none=>none
 |none=>none
def IL(P:Program)(t:TypeId):Option Ky :=
 match P.underlying t with
 |some .string=>some none
 |some (.int k)=>some (some (false,[some k]))
 |some (.struct fs) =>
  if fs.toList.all (λf=>match P.underlying f.type with | some (.int _)=>true | some .bool=>true | _=>false)then
   (mj P 20 t).map λks=>some (true,ks)
  else none
 |_=>none
def eqC(P:Program)(b:BinOp)(t:TypeId)(x y:bI):Option K :=
 match mj P 20 t with
 |some ks=>if P.eqGuardType P.depth t then none else
  match b with
  |.eql=>(vD P t).map λag => .eqv ag ks false x y
  |.neq=>(vD P t).map λag => .eqv ag ks true x y
  |_=>none
 |none=>none
def GQ(ops:Array Oper):Nat->Nat->Nat
 |0,t=>t
 |n+1,t =>
  match ops.toList.find? (λo=>o.dst == some t)with
  |some o=>match o.op with
   |.fieldAddr _ (.tmp x) _=>GQ ops n x
   |.indexAddr _ (.tmp x) _=>GQ ops n x
   |_=>t
  |none=>t
def VM:Operand->Option Nat
 |.tmp t=>some t
 |_=>none
def VT(ps:Bool)(b:BinOp)(x:bI):Option K :=
 match b with
 |.eql=>some (.Xw ps false x)
 |.neq=>some (.Xw ps true x)
 |_=>none
def Vi:TypeDesc->Bool
 |.slice _=>true
 |.string=>true
 |_=>false
def kC(P:Program)(a:ux)(ops:Array Oper)(key:Nat)(o:Oper):Option K :=
 match o.op with
 |.move x=>(bG x).map .mv
 |.assign x =>
  match Bm x,P.underlying o.type,o.dst with
  |true,some (.slice e),some d=>if a.XP.contains d then(de P e).map .IT else(bG x).map .mv
  |_,_,_=>(bG x).map .mv
 |.pick c x y=>match bG c,bG x,bG y with
  |some c',some x',some y'=>some (.pick c' x' y')
  |_,_,_=>none
 |.alloc e=>match sY P e,o.dst with
  |some z,some d=>if a.kp.contains (2000000+key)then(match P.underlying e with
    |some (.struct fs)=>(match fs.toList with
     |[_,f]=>(match P.underlying f.type,z with
      |some (.slice b),[.xU,.bP]=>some (.mp (.JB e b) [])
      |_,_=>none)
     |_=>none)
    |_=>none)else some (if a.dF.contains d then .AW (look key [] a.nb) z else .RE (look key [] a.nb) z)
  |_,_=>none
 |.box _ x=>match bG x,o.dst with
  |some x',some d=>some (if a.dF.contains d then .FZ x' else if a.XP.contains d then(match look key [] a.nb with | [] => .JD x' | nb => .T0 nb x')else .JC x')
  |_,_=>none
 |.build t ps =>
  match P.underlying t,sY P t with
  |some (.struct fs),some z=>if fs.toList.all (λf=>(de P f.type).isSome)then(ve (Bh P fs) ps.toList).map (.JB z)else none
  |some (.array _ e),some z=>match de P e with
   |some w=>(ve (λi=>some (i*w,w)) ps.toList).map (.JB z)
   |none=>none
  |_,_=>none
 |.buildSlice t n ps =>
  match P.underlying t with
  |some (.slice e) =>
   match de P e,sY P e,o.dst with
   |some w,some z,some d =>
    if 0<w/\z.length=w/\n*w<=2^24 then
     (ve (λi=>some (i*w,w)) ps.toList).map λp =>
      let zs:=(List.range n).flatMap λ_=>z
      if n=0 && ps.isEmpty && a.kp.contains (1000000+key)then .bse else if a.XP.contains d then .RJ n w zs p else .W6 n w zs p
    else none
   |_,_,_=>none
  |_=>none
 |.load t x=>match vD P t,de P t,bG x with
  |some g,some s,some (.t n)=>if(g || s == 1) && decide (0<s)then some (if a.dF.contains (GQ ops 8 n)then .SV (GQ ops 8 n) g s n else if(a.pM.contains (GQ ops 8 n) || a.kp.contains (4000000+key))then .VU g s (.t n)else if a.kp.contains (3000000+key)then .SU g s (.t n)else .ld g s (.t n))else none
  |_,_,_=>none
 |.store t x y=>match de P t,bG x,bG y with
  |some s,some (.t n),some y'=>some (if a.dF.contains (GQ ops 8 n)then .Hj (GQ ops 8 n) (look key [] a.nb) s n y' else(match look key none a.sx with | some os => .SH os s (.t n) y' | none => .st (look key [] a.nb) s (.t n) y'))
  |_,_,_=>none
 |.binOp b t x y _ =>
  match P.underlying t,bG x,bG y with
  |some (.int _),some x',some y'=>some (.bin b x' y')
  |some .bool,some x',some y'=>eqC P b t x' y'
  |some (.struct _),some x',some y'=>eqC P b t x' y'
  |some (.array _ _),some x',some y'=>eqC P b t x' y'
  |some .string,some x',some y'=>(match b with | .add=>some (.GO .Vs [x',y']) | .eql=>some (.GO (.seq false) [x',y']) | .neq=>some (.GO (.seq true) [x',y']) | _=>none)
  |some (.pointer _),some x',some (.c .xU)=>VT true b x'
  |some (.pointer el),some x',some y'=>if(P.info? el).isSome then(match b with | .eql=>some (.me (.peq false) [x',y']) | .neq=>some (.me (.peq true) [x',y']) | _=>none)else none
  |some (.slice _),some x',some (.c .bP)=>VT false b x'
  |some (.interface _),some x',some (.c .oI)=>(match b,y with | .eql,.const .nilIface=>some (.Xv false x') | .neq,.const .nilIface=>some (.Xv true x') | _,_=>none)
  |_,_,_=>none
 |.nilCheck x=>(bG x).map .XR
 |.unOp b _ x=>(bG x).map (.un b)
 |.convert s d x =>
  match P.underlying s,P.underlying d,bG x with
  |some (.int _),some (.int k),some x'=>some (.SR k x')
  |some (.slice e),some .string,some x'=>(match P.underlying e,de P e with | some (.int .u8),some 1=>some (.me .b2s [x']) | _,_=>none)
  |some .string,some (.slice e),some x'=>(match P.underlying e,de P e with | some (.int .u8),some 1=>some (.me .s2b [x']) | _,_=>none)
  |some (.slice e),some (.slice _),some x'=>if s=d then(match P.underlying e with | some (.int .u8)=>some (.cvz x') | _=>none)else none
  |_,_,_=>none
 |.sliceToArrayPointer t x =>
  match P.underlying t,bG x with
  |some (.array n e),some x'=>(de P e).map λw => .me (.s2a n w) [x']
  |_,_=>none
 |.makeFunc (.func f) xs ys=>match xr xs.toList,xr ys.toList with
  |some xs',some ys'=>some (.UJ f xs' ys')
  |_,_=>none
 |.makeSlice t x y =>
  match P.underlying t with
  |some (.slice e) =>
   match de P e,(P.info? e).map (·.bytes),sY P e,bG x,bG y with
   |some w,some b,some z,some x',some y'=>if 0<w/\0<b then some (.VV w b z x' y')else none
   |_,_,_,_,_=>none
  |_=>none
 |.slice t x lo hi mx =>
  match P.underlying t,bG x,yI lo,yI hi,yI mx with
  |some (.slice e),some x',some lo',some hi',some mx'=>(de P e).map λw => .Vv w x' lo' hi' mx'
  |some (.array n e),some x',some lo',some hi',some none=>(de P e).map λw => .Pv n w x' lo' hi'
  |some .string,some x',some lo',some hi',some none=>some (.GO (.Mc lo'.isSome hi'.isSome) (x'::(lo'.toList++hi'.toList)))
  |_,_,_,_,_=>none
 |.fieldAddr s x i =>
  match P.underlying s,bG x with
  |some (.struct fs),some x' =>
   match Bh P fs i with
   |some (off,sz)=>if 0<sz then some (.JF off x')else none
   |none=>none
  |_,_=>none
 |.field s x i =>
  match P.underlying s,bG x with
  |some (.struct fs),some x' =>
   match fs[i]? with
   |some f=>match vD P f.type,de P f.type with
    |some g,some sz=>if g || sz == 1 then some (.fld g f.offset sz x')else none
    |_,_=>none
   |none=>none
  |_,_=>none
 |.indexAddr t x i =>
  match P.underlying t,bG x,bG i with
  |some (.array n e),some x',some i'=>(de P e).map λw => .Hc n w x' i'
  |some (.slice e),some x',some i'=>(de P e).map λw => .He w x' i'
  |_,_,_=>none
 |.index t x i =>
  match P.underlying t,bG x,bG i with
  |some (.array n e),some x',some i'=>match vD P e,de P e with
   |some g,some w=>if g || w == 1 then some (.LF g n w x' i')else none
   |_,_=>none
  |some .string,some x',some i'=>some (.GO .Ps [x',i'])
  |_,_,_=>none
 |.extract x i=>(bG x).map (.ext · i)
 |.call c =>
  match c.callee with
  |.value f=>match bG f,xr c.args.toList with
   |some f',some xs=>some (.call (a.kp.contains key) f' xs)
   |_,_=>none
  |.builtin .len =>
   match c.argTypes.toList,c.args.toList with
   |t::_,x::_=>match P.underlying t,bG x with
    |some (.slice _),some x'=>some (.JK x')
    |some .string,some x'=>some (.GO .Vw [x'])
    |some (.map _ _),some x'=>some (.mp .len [x'])
    |some (.array n _),_=>some (.O8 n)
    |some (.pointer r),_=>(match P.underlying r with | some (.array n _)=>some (.O8 n) | _=>none)
    |_,_=>none
   |_,_=>none
  |.builtin .recover=>some .N1
  |.builtin .min=>match c.args.toList with
   |[x,y]=>(match bG x,bG y with | some x',some y'=>some (.mn x' y') | _,_=>none)
   |_=>none
  |.builtin .max=>match c.args.toList with
   |[x,y]=>(match bG x,bG y with | some x',some y'=>some (.mx x' y') | _,_=>none)
   |_=>none
  |.builtin .append =>
   match c.argTypes.toList,c.args.toList with
   |[t,u],[x,y]=>match P.underlying t,P.underlying u,bG x,bG y with
    |some (.slice e),some uu,some x',some y' =>
     if Vi uu=true then(match de P e,(P.info? e).map (·.bytes),sY P e with
     |some w,some b,some z=>if 0<w/\0<b/\b<=2^20/\z.length=w then
       some (if Bm x && !(o.dst.any a.XP.contains)then .VS w b y' else if a.kp.contains (1000000+key) && (VM x).isSome then .ape w b ((VM x).getD 0) y' else if a.kp.contains key then .apz w b x' y' else(match look key none a.sx with | some os => .RF os w b x' y' | none => .app w b x' y'))else none
     |_,_,_=>none)else none
    |_,_,_,_=>none
   |_,_=>none
  |_=>none
 |.makeInterface t x=>if P.concrete t=true then(bG x).map (.SW t)else none
 |.typeAssert x _ t ok =>
  match P.underlying t,bG x with
  |some (.interface _),_=>none
  |some _,some x'=>if ok then(zvC P t).map λz => .VJ t (some z) x' else some (.VJ t none x')
  |_,_=>none
 |.panic x=>(bG x).map .U1
 |.makeMap _ none=>some (.mp .make [])
 |.makeMap t (some (.const (.int _ _)))=>(match P.underlying t with | some (.map _ _)=>some (.mp .make []) | _=>none)
 |.range t x =>
  match P.underlying t,bG x with
  |some (.map _ _),some x'=>some (.mp .rng [x'])
  |_,_=>none
 |.entry x=>(match bG x with
  |some x'=>some (.mp .ent [x'])
  |none=>none)
 |.lookup t x i ok =>
  match P.underlying t,bG x,bG i with
  |some (.map kt et),some x',some i'=>(match IL P kt,zvC P et with
   |some ky,some z=>some (.mp (.get ky z ok) [x',i'])
   |_,_=>none)
  |_,_,_=>none
 |.mapUpdate t m x y =>
  match P.underlying t,bG m,bG x,bG y with
  |some (.map kt _),some m',some x',some y'=>(match IL P kt with
   |some ky=>some (.mp (.put ky) [m',x',y'])
   |none=>none)
  |_,_,_,_=>none
 |.insert t m x y =>
  match P.underlying t,bG m,bG x,bG y with
  |some (.map kt _),some m',some x',some y'=>(match IL P kt with
   |some ky=>some (.mp (.put ky) [m',x',y'])
   |none=>none)
  |_,_,_,_=>none
 |_=>none
def K.makes:K->Bool
 |.AW .. => true
 |.FZ _=>true
 |_=>false
def K.aeQ:K->Bool
 |.Hj .. => true
 |_=>false
def Sr(P:Program)(a:ux)(n tT:Nat)(ops:Array Oper)(BP:Bool)(i:Nat)(o:Oper):Option Op :=
 match kC P a ops (tT*1000+i) o with
 |some k =>
  match(match o.guard with
   |none=>some none
   |some (j,b)=>match(ops[j]?).bind (·.dst)with
    |some d=>some (some (d,b))
    |none=>none),(match o.dst with | some d=>decide (d<n) | none=>true)with
  |some g,true=>if(match o.dst with | some d => !(a.dF.contains d) || (k.makes && o.guard.isNone) | none => !k.makes) && (!k.aeQ || o.dst.isNone)then some {dst:=o.dst,Ef:=g,BP,k }else none
  |_,_=>none
 |none=>none
def LN(P:Program)(a:ux)(n tT:Nat)(ops:Array Oper)(tail:Nat):Nat->List Oper->Option (List Op)
 |_,[]=>some []
 |i,o::r=>match Sr P a n tT ops (decide (i<tail) && !(a.kp.contains (tT*1000+i))) i o,LN P a n tT ops tail (i+1) r with
  |some x,some xs=>some (x::xs)
  |_,_=>none
def Mo.calm:Mo->Bool
 |.get .. => true
 |.len=>true
 |.ent=>true
 |_=>false
def K.calm:K->Bool
 |.st .. => false
 |.SH .. => false
 |.app .. => false
 |.RF .. => false
 |.apz .. => false
 |.cvz _=>false
 |.IT _=>false
 |.RE .. => false
 |.JD _=>false
 |.T0 .. => false
 |.RJ .. => false
 |.VV .. => false
 |.AW nb _=>nb.isEmpty
 |.Hj _ nb _ _ _=>nb.isEmpty
 |.mp o _=>o.calm
 |.U1 _=>false
 |.N1=>false
 |_=>true
def K.pure:K->Bool
 |.ld .. => false
 |.SU .. => false
 |.Pv .. => false
 |.VS .. => false
 |.ape .. => false
 |.call .. => false
 |.mp .. => false
 |.me .. => false
 |k=>k.calm
def bI.tmps:bI->List Nat
 |.t n=>[n]
 |.c _=>[]
def K.tmps:K->List Nat
 |.mv x=>x.tmps
 |.IT _=>[]
 |.pick c a b=>c.tmps++a.tmps++b.tmps
 |.RE .. => []
 |.AW .. => []
 |.JC x=>x.tmps
 |.JD x=>x.tmps
 |.T0 _ x=>x.tmps
 |.FZ x=>x.tmps
 |.SV v _ _ a=>[v,a]
 |.Hj v _ _ a x=>[v,a]++x.tmps
 |.JB _ ps=>ps.flatMap λp=>p.2.2.tmps
 |.W6 _ _ _ ps=>ps.flatMap λp=>p.2.2.tmps
 |.RJ _ _ _ ps=>ps.flatMap λp=>p.2.2.tmps
 |.ld _ _ a=>a.tmps
 |.VU _ _ a=>a.tmps
 |.SU _ _ a=>a.tmps
 |.Xw _ _ x=>x.tmps
 |.XR x=>x.tmps
 |.st _ _ a x=>a.tmps++x.tmps
 |.SH os _ a x=>a.tmps++x.tmps++os
 |.bin _ x y=>x.tmps++y.tmps
 |.eqv _ _ _ x y=>x.tmps++y.tmps
 |.un _ x=>x.tmps
 |.SR _ x=>x.tmps
 |.UJ _ xs ys=>xs.flatMap bI.tmps++ys.flatMap bI.tmps
 |.VV _ _ _ l c=>l.tmps++c.tmps
 |.Vv _ x lo hi m=>x.tmps++(lo.map bI.tmps).getD []++(hi.map bI.tmps).getD []++(m.map bI.tmps).getD []
 |.Pv _ _ x lo hi=>x.tmps++(lo.map bI.tmps).getD []++(hi.map bI.tmps).getD []
 |.JF _ x=>x.tmps
 |.fld _ _ _ x=>x.tmps
 |.Hc _ _ x i=>x.tmps++i.tmps
 |.He _ x i=>x.tmps++i.tmps
 |.LF _ _ _ x i=>x.tmps++i.tmps
 |.JK x=>x.tmps
 |.O8 _=>[]
 |.mn x y=>x.tmps++y.tmps
 |.mx x y=>x.tmps++y.tmps
 |.app _ _ s x=>s.tmps++x.tmps
 |.RF os _ _ s x=>s.tmps++x.tmps++os
 |.apz _ _ s x=>s.tmps++x.tmps
 |.VS _ _ x=>x.tmps
 |.cvz x=>x.tmps
 |.bse=>[]
 |.ape _ _ v x=>v::x.tmps
 |.ext x _=>x.tmps
 |.GO _ xs=>xs.flatMap bI.tmps
 |.mp _ xs=>xs.flatMap bI.tmps
 |.me _ xs=>xs.flatMap bI.tmps
 |.SW _ x=>x.tmps
 |.VJ _ _ x=>x.tmps
 |.Xv _ x=>x.tmps
 |.U1 x=>x.tmps
 |.N1=>[]
 |.call _ f xs=>f.tmps++xs.flatMap bI.tmps
def Op.FB(o:Op):List Nat:=(match o.Ef with | some (g,_)=>[g] | none=>[])++o.k.tmps
def iF:List Oper->List Nat->List Nat
 |[],acc=>acc
 |o::r,acc=>iF r (acc++[o.after.toList.foldl (λs e=>if Region.binds .any e then s ||| 2^e.on ||| acc.getD e.on 0 else s) 0])
def BD(bs:List Nat):Nat :=
 go bs.length
where
 go:Nat->Nat
  |0=>0
  |n+1=>if bs.getD n 0=2^n-1 then go n else n+1
def Op.defs(o:Op):List Nat:=o.dst.toList++(match o.k with | .Hj v _ _ _ _=>[v] | _=>[])
def Op.YU(o p:Op):Bool :=
 o.defs.any (λd=>p.defs.contains d || p.FB.contains d) || o.FB.any (λd=>p.defs.contains d)
def Op.still(op:Op):Bool:=op.k.calm && op.BP
def Op.YZ(o p:Op):Bool :=
 o.Ef.isNone && p.Ef.isNone &&
 match o.k,p.k with
 |.SH os _ _ _,.ld _ _ (.t m)=>os.contains m
 |.ld _ _ (.t m),.SH os _ _ _=>os.contains m
 |.SH os _ _ _,.SH _ _ (.t m) _=>os.contains m
 |.RF os _ _ _ _,.ld _ _ (.t m)=>os.contains m
 |.ld _ _ (.t _),.RE [] _=>true
 |.RF ..,.SU _ _ (.t _)=>true
 |_,_=>false
def Op.adr(o p:Op):Bool :=
 match o,p with
 |⟨none,none,_,.Hj v [] _ a x⟩,⟨some d,none,_,.JF _ (.t m)⟩=>decide (m=v/\d≠v/\d≠a/\d ∉ x.tmps)
 |_,_=>false
def Op.free(o p:Op):Bool:=o.adr p || (!(o.YU p) && (o.still && p.still || o.k.pure || p.k.pure || o.YZ p))
def Ip(bs:List Nat):Nat->List Op->Bool
 |_,[]=>true
 |i,o::r=>after i (i+1) o r && Ip bs (i+1) r
where
 after (i:Nat):Nat->Op->List Op->Bool
  |_,_,[]=>true
  |j,o,p::r=>(o.free p || (bs.getD j 0).testBit i) && after i (j+1) o r
def EX:Nat->List Oper->Bool
 |_,[]=>true
 |i,o::r=>(o.after.toList.all λe => !Region.binds .any e || decide (e.on<i)) && EX (i+1) r
def It(live:List Nat):Option Nat->List Op->cc
 |some j,xs=>match xs.drop j with
  |x::r => .Om live (xs.take j) x r
  |[] => .tT live xs
 |none,xs => .tT live xs
def Po(P:Program)(a:ux)(n:Nat)(id:Nat)(ops:Array Oper)(draw:Bool):Option cc :=
  if draw then
   let bs:=iF ops.toList []
   let tail:=BD bs
   match LN P a n id ops tail 0 ops.toList with
   |some xs=>if Ip bs 0 (xs.take tail) && EX 0 ops.toList && xs.all (λx=>x.k != .N1)then some (It (look id [] a.live) ((look id none a.fp).filter λj=>decide (tail<=j)) xs)else none
   |none=>none
  else(LN P a n id ops 0 0 ops.toList).map (It (look id [] a.live) (look id none a.fp))
def zG(c:cc):List Nat->cc
 |[]=>c
 |vs => .seq (.cC vs) c
def Cv:cc:=.tT [] [⟨none,none,false,.Xw false false (.c .undef)⟩]
def Lw:Code->Option (bI×List bI)
 |.region _ ops false =>
  match ops.toList with
  |[o]=>(match o.op,o.dst,o.guard with
   |.defer c,none,none=>(match c.callee with
    |.value f=>(match bG f,xr c.args.toList with
     |some f',some xs=>some (f',xs)
     |_,_=>none)
    |_=>none)
   |_,_,_=>none)
  |_=>none
 |_=>none
def RQ(P:Program)(a:ux)(n:Nat):Code->Option (cc×bI×List bI)
 |.region id ops false =>
  match ops.toList with
  |[m,o]=>(match o.op,o.dst,o.guard,m.dst with
   |.defer c,none,none,some t=>(match c.callee with
    |.value f=>(match Sr P a n id ops false 0 m,bG f,xr c.args.toList with
     |some op,some f',some xs=>if op.k=.N1 then none else some (.tT (t::(xs.flatMap bI.tmps++look id [] a.live)) [op],f',xs)
     |_,_,_=>none)
    |_=>none)
   |_,_,_,_=>none)
  |_=>none
 |_=>none
def Pc(a:ux)(n:Nat):Code->Option (Nat×Nat×Nat)
 |.loop (.seq (.region _ ops false) _) =>
  match ops.toList with
  |[o,p]=>(match o.op,o.dst,o.guard,p.op,p.dst,p.guard with
   |.next (.tmp it) false,some nx,none,.extract (.tmp nx') 0,some ok,none =>
    if nx'=nx/\nx<n/\ok<n/\nx≠ok/\nx ∉ a.dF/\ok ∉ a.dF then some (it,nx,ok)else none
   |_,_,_,_,_,_=>none)
  |_=>none
 |_=>none
def W4(a:ux)(n id:Nat)(x:Code)(x':cc):cc :=
 match Pc a n x,x' with
 |some (it,nx,ok),.loop live _ (.seq _ c) => .iu live (.t it) nx ok id c .Hu
 |_,x' => .dr id x'
def Yj(a:ux):Code->Bool
 |.region id ops _=>a.bB.contains (1000000+id) && decide (2<ops.size)
 |.seq (.region id ops _) (.cond ..)=>a.bB.contains (2000000+id) && decide (2<ops.size)
 |_=>false
def SC(P:Program)(a:ux)(n:Nat)(x:Code)(x' y':cc):cc :=
 match Lw x with
 |some (f,xs) => .Qs f xs y'
 |none =>
  match RQ P a n x with
  |some (c,f,xs) => .seq c (.Qs f xs y')
  |none =>
  match x,x' with
  |.seq _ (.block _ _),.seq p' (.iu live it nx ok b c .Hu) => .seq p' (.iu live it nx ok b c y')
  |_,_ => .seq x' (if Yj a x then .VY y' else y')
def I8(c:cc):cc:=match iE c with | some _=>Cv | none => .seq .Hu c
def cb(P:Program)(a:ux)(n:Nat)(dr:Nat):Code->Option cc
 |.skip=>some .Hu
 |.region id ops draw=>match Po P a n id ops draw with
  |some c=>some (zG c (look id [] a.fz))
  |none=>some Cv
 |.seq x y=>match cb P a n dr x,cb P a n dr y with
  |some x',some y'=>some (SC P a n x x' y')
  |_,_=>none
 |.cond c x y=>match bG c,cb P a n dr x,cb P a n dr y with
  |some c',some x',some y'=>some (.ite c' x' y')
  |_,_,_=>none
 |.block id x=>(cb P a n id x).map (W4 a n id x)
 |.loop x=>(cb P a n dr x).map (.loop (look dr [] a.Y5) (a.bB.contains dr))
 |.rangeFunc f ps x y=>match bG f,cb P a n dr x,cb P a n dr y with
  |some f',some x',some y'=>if ps.toList.all (λt=>decide (t<n) && !(a.dF.contains t))then some (.LY (look dr [] a.Y5) f' ps.toList x' y')else none
  |_,_,_=>none
 |.exit id=>some (.exit id)
 |.ret=>some .ret
 |.scope x=>(cb P a n dr x).map I8
 |.label _=>some .Hu
 |_=>some Cv
def Yb(P:Program)(a:ux):ResultVar->Option Ez
 |.tmp t=>some (.t t)
 |.cell x t=>match vD P t,de P t with
  |some g,some s=>if(g || s == 1) && decide (0<s)then some (if a.dF.contains x then .v x g s else .c x g s)else none
  |_,_=>none
def GP(P:Program)(a:ux):List ResultVar->Option (List Ez)
 |[]=>some []
 |r::rs=>match Yb P a r,GP P a rs with
  |some x,some xs=>some (x::xs)
  |_,_=>none
def fnC(P:Program)(a:ux)(f:Func):Option Fn :=
 match f.body with
 |some c=>match cb P a f.ntmps 0 c,GP P a f.results.toList with
  |some c',some rs=>if f.params.size+f.nfree<=f.ntmps then some {Pg:=f.params.size+f.nfree,res:=rs,body:=c' }else none
  |_,_=>none
 |none=>none
def Rd(w:World)(b o:Nat)(vs:List Value):Prop:=∀(j:Nat) x,vs[j]?=some x->w.cell? ⟨b,o+j,none⟩=some x
theorem Rd.take{w:World}{b o:Nat}{vs:List Value}(h:Rd w b o vs)(n:Nat):Rd w b o (vs.take n):=λj x e=>h j x (by
 rw[eH]at e;split at e<;>simp_all)
theorem Rd.drop{w:World}{b o:Nat}{vs:List Value}(h:Rd w b o vs)(n:Nat):Rd w b (o+n) (vs.drop n):=λj x e=>by
 have:=h (n+j) x (by rw[eE]at e;exact e);rw[show o+n+j=o+(n+j)from by omega];exact this
theorem add_eq(b o n:Nat):Addr.add ⟨b,o,none⟩ n=⟨b,o+n,none⟩:=by
 unfold Addr.add;split
 .subst_vars;rfl
 .rfl
section types
variable {P:Program} {t:TypeId}
theorem run_typeInfo{i:TypeInfo}(h:P.info? t=some i)(w:World):(typeInfo t).run P w=.ok i w:=by
 simp[typeInfo,h]
theorem run_sizeOf{s:Nat}(h:de P t=some s)(w:World):(sizeOf t).run P w=.ok s w:=by
 simp only[de,ab]at h;obtain⟨i,hi,rfl⟩:=h;simp[sizeOf,run_typeInfo hi]
theorem bx{d:TypeDesc}(h:P.underlying t=some d)(w:World):(underlying t).run P w=.ok d w:=by
 simp[underlying,h]
theorem De{b:Bool}(h:vD P t=some b)(w:World):(isAgg t).run P w=.ok b w:=by
 unfold vD at h;cases hu:P.underlying t with
 |none=>simp[hu]at h
 |some d =>
  rw[hu]at h;simp only[isAgg,Sem.run_bind,bx hu,Result.andThen_ok];cases d<;>simp_all
theorem gw{z:Value}{i:TypeInfo}(h:P.info? t=some i)(hz:i.zero=some z)(w:World):(zeroValue t).run P w=.ok z w:=by
 simp[zeroValue,run_typeInfo h,hz]
end types
theorem Oo(g:G){v:Value}{d:D}(h:YE v=some d):bH g d v/\v.oneCell'=true:=by
 unfold YE at h;split at h<;>first | (cases h;exact⟨by constructor,rfl⟩) | cases h
theorem Iq(g:G){vs:List Value}{ds:List D}(h:F0 vs=some ds):bF g ds vs/\∀x∈vs,x.oneCell'=true:=by
 induction vs generalizing ds with
 |nil=>simp only[F0,ad]at h;subst h;exact⟨.nil,by simp⟩
 |cons v vs ih =>
  simp only[F0]at h;split at h
  .rename_i d ds' h1 h2;cases h;obtain⟨h3,h4⟩:=ih h2;obtain⟨h5,h6⟩:=Oo g h1;exact⟨.cons _ _ _ _ h5 h3,by simp only[aY];rintro x (rfl | hx);exact h6;exact h4 x hx⟩
  .cases h
theorem Is(g:G){v:Value}{d:D}(h:Lp v=some d):bH g d v:=by
 unfold Lp at h;split at h
 .rename_i cs;simp only[ab]at h;obtain⟨ds,h1,rfl⟩:=h;obtain⟨h2,h3⟩:=Iq g h1;exact .agg ds cs h2 h3
 .exact(Oo g h).1
theorem uq{P:Program}{t:TypeId}(g:G){z:List D}(h:sY P t=some z):∃i v,P.info? t=some i/\i.zero=some v/\bF g z v.cells.toList/\∀x∈v.cells.toList,x.oneCell'=true:=by
 unfold sY at h;split at h
 .rename_i i hi;split at h
  .rename_i v hv;obtain⟨h2,h3⟩:=Iq g h;exact⟨i,v,hi,hv,h2,h3⟩
  .cases h
 .cases h
theorem CN{P:Program}{t:TypeId}{w:World}{b o sz:Nat}{ag:Bool}{vs:List Value}(hag:vD P t=some ag)(hsz:de P t=some sz)(hone:(ag || sz == 1)=true)
  (hr:Rd w b o vs) (hlen:sz<=vs.length):
  ∃v,(loadVar t ⟨b,o,none⟩).run P w=.ok v w/\(if ag then v=.agg (vs.take sz).toArray else ∃x r,vs=x::r/\v=x):=by
 cases ag with
 |true =>
  have h1:(loadCells ⟨b,o,none⟩ sz).run P w=.ok (vs.take sz).toArray w:=by
   have:=run_loadCells_list (P:=P) w ⟨b,o,none⟩ (vs.take sz) (λj v e=>by rw[add_eq];exact hr.take sz j v e);rwa[fT,Nat.min_eq_left hlen]at this
  exact⟨_,by simp[loadVar,De hag,run_sizeOf hsz,h1],rfl⟩
 |false =>
  simp only[Bool.false_or,beq_iff_eq]at hone;subst hone;cases vs with
  |nil=>simp at hlen
  |cons x r =>
   have:=hr 0 x rfl;exact⟨x,by simp only[Nat.add_zero]at this;simp[loadVar,De hag,this],x,r,rfl,rfl⟩
theorem yM{P:Program}{b:Nat}{el:TypeId}:∀(ps:List Value) (w:World) (o i:Nat) (c:Array Value),(∀x∈ps,x.oneCell'=true) ->
  w.heap[b]?=some (.cells c el (0,0))->o+i+ps.length<=c.size ->
  ∃w' c',(storeCells ⟨b,o,none⟩ ps i).run P w=.ok () w'/\w'.heap[b]?=some (.cells c' el (0,0))/\c'.size=c.size /\
   (∀j,c'[j]?=if o+i<=j/\j<o+i+ps.length then ps[j-(o+i)]? else c[j]?) /\
   (∀x,x≠b->w'.heap[x]?=w.heap[x]?)/\w'.heap.size=w.heap.size/\w'.os=w.os/\w'.tape=w.tape/\w'.output=w.output
 |[],w,o,i,c,_,hb,_=>⟨w,c,by simp[storeCells],hb,rfl,λj=>by rw[if_neg (by simp only[aV];omega)],λ_ _=>rfl,rfl,rfl,rfl,rfl⟩
 |p::ps,w,o,i,c,h1,hb,hl=>by
  simp only[av]at hl;have hp:=h1 p (by simp);have hcell:w.cell? ⟨b,o+i,none⟩=some (c[o+i]'(by omega)):=by
   simp only[World.cell?,hb];simp
  have hfz:w.frozen? ⟨b,o+i,none⟩=false:=by simp[World.frozen?,hb]
  have hb1:(w.setCell ⟨b,o+i,none⟩ p).heap[b]?=some (.cells (c.setIfInBounds (o+i) p) el (0,0)):=by
   simp[World.setCell,fx,hb]
  obtain⟨w',c',hrun,hb',hs,hc,ho,hsz,e1,e2,e3⟩:=yM ps (w.setCell ⟨b,o+i,none⟩ p) o (i+1) (c.setIfInBounds (o+i) p) (λx hx=>h1 x (by simp[hx])) hb1 (by simp;omega);refine⟨w',c',?_,hb',by simpa using hs,?_,?_,by simpa using hsz,e1,e2,e3⟩
  .simp only[storeCells,Sem.run_bind,add_eq,run_store P w _ p .plain hp,hcell,hfz];simpa using hrun
  .intro j;rw[hc j];by_cases hj:j=o+i
   .subst hj;rw[if_neg (by omega),if_pos (by simp)];rw[Array.getElem?_setIfInBounds_self_of_lt (by omega)];simp
   .by_cases hj2:o+(i+1)<=j/\j<o+(i+1)+ps.length
    .rw[if_pos hj2,if_pos (by simp;omega)];rw[show j-(o+i)=(j-(o+(i+1)))+1 from by omega];simp
    .rw[if_neg hj2,if_neg (by simp;omega)];rw[Array.getElem?_setIfInBounds_ne (by omega)]
  .intro x hx;rw[ho x hx];simp only[World.setCell,fx];rw[if_neg (by simpa using λe=>hx e.symm)]
theorem Fq{P:Program}{t:TypeId}{w:World}{b o sz:Nat}{el:TypeId}{c:Array Value}{v:Value}(hsz:de P t=some sz)(hv:v.cells.size=sz)
  (h1:∀x∈v.cells.toList,x.oneCell'=true) (hb:w.heap[b]?=some (.cells c el (0,0))) (hl:o+sz<=c.size):
  ∃w' c',(storeVar t ⟨b,o,none⟩ v).run P w=.ok () w'/\w'.heap[b]?=some (.cells c' el (0,0))/\c'.size=c.size /\
   (∀j,c'[j]?=if o<=j/\j<o+sz then v.cells.toList[j-o]? else c[j]?) /\
   (∀x,x≠b->w'.heap[x]?=w.heap[x]?)/\w'.heap.size=w.heap.size/\w'.os=w.os/\w'.tape=w.tape/\w'.output=w.output:=by
 obtain⟨w',c',hrun,rest⟩:=yM (P:=P) (b:=b) (el:=el) v.cells.toList w o 0 c h1 hb (by simp[hv];omega);refine⟨w',c',?_,?_⟩
 .simp only[storeVar,Sem.run_bind,run_sizeOf hsz,Result.andThen_ok,hv];simpa using hrun
 .simpa[hv]using rest
end Go.aA
