import GoSem.Core.Program
import GoSem.Core.Layout
import Derived.Laws.Build
import Derived.Test.YtpapbbojmclkgaaGreatDoorBase1
set_option linter.all false
namespace Go.Abs
open Go
structure tT where
 live:List (Nat×List Nat)
 ady:List (Nat×List Nat)
 bD:List Nat
 ab9:List Nat
 dW:List Nat
 nb:List (Nat×List (Nat×Nat))
 kp:List Nat
 fz:List (Nat×List Nat)
 oG:List Nat
 sx:List (Nat×Option (List Nat))
 fw:List (Nat×Option Nat):=[]
def look{α:Type}(n:Nat)(d:α):List (Nat×α)->α
 |[]=>d
 |(k,v)::r=>if k=n then v else look n d r
def acZ:Value->Option D
 |.bool b=>some (.bool b)
 |.int k n=>some (.int k n)
 |.string s=>some (.str s.data.toList)
 |.pointer none=>some .zK
 |.slice none 0 0=>some .bu
 |.nilFunc=>some .ri
 |.nilIface=>some .od
 |.map none=>some .undef
 |_=>none
def Iy:List Value->Option (List D)
 |[]=>some []
 |v::vs=>match acZ v,Iy vs with
  |some d,some ds=>some (d::ds)
  |_,_=>none
def Oi:Value->Option D
 |.agg cs=>(Iy cs.toList).map .agg
 |v=>acZ v
def bR:Operand->Option bS
 |.tmp t=>some (.t t)
 |.const v=>(Oi v).map .c
 |.func f=>some (.c (.fn f [] []))
 |.global _=>none
def ya:List Operand->Option (List bS)
 |[]=>some []
 |x::xs=>match bR x,ya xs with
  |some y,some ys=>some (y::ys)
  |_,_=>none
def zM:Option Operand->Option (Option bS)
 |none=>some none
 |some x=>(bR x).map some
def dG(P:Program)(t:TypeId):Option Nat:=(P.info? t).map (·.size)
def vu(P:Program)(t:TypeId):Option Bool :=
 match P.underlying t with
 |some (.struct _) | some (.array _ _)=>some true
 |some _=>some false
 |none=>none
def rM(P:Program)(t:TypeId):Option (List D) :=
 match P.info? t with
 |some i=>match i.zero with
  |some z=>Iy z.cells.toList
  |none=>none
 |none=>none
def Di:Operand->Bool
 |.const (.slice none 0 0)=>true
 |_=>false
def uL(place:Nat->Option (Nat×Nat)):List (Nat×Operand)->Option (List (Nat×Nat×bS))
 |[]=>some []
 |(i,x)::r=>match place i,bR x,uL place r with
  |some (o,s),some y,some r'=>some ((o,s,y)::r')
  |_,_,_=>none
def CU(P:Program)(fs:Array Field)(i:Nat):Option (Nat×Nat) :=
 match fs[i]? with
 |some f=>(dG P f.type).map λs=>(f.offset,s)
 |none=>none
def lX(P:Program):Nat->TypeId->Option (List (Option IntKind))
 |0,_=>none
 |d+1,t =>
  match P.underlying t with
  |some (.int k)=>some [some k]
  |some .bool=>some [none]
  |some (.struct fs)=>if P.stoodInHeld t then none else kindsF P (lX P d) 0 fs.toList
  |some (.array n e)=>match lX P d e with
   |some ks=>if dG P e == some ks.length && decide (0<ks.length)then some (fM (List.range n) λ_=>ks)else none
   |none=>none
  |_=>none
where
 kindsF (P:Program) (f:TypeId->Option (List (Option IntKind))) (o:Nat):List Field->Option (List (Option IntKind))
  |[]=>some []
  |x::r=>match f x.type with
   |some ks=>if x.name ≠ "_" /\ x.offset=o/\dG P x.type=some ks.length/\0<ks.length then(kindsF P f (o+ks.length) r).map (ks ++ ·)else none
   |none=>none
def zvC(P:Program)(t:TypeId):Option D :=
 match P.info? t with
 |some i=>match i.zero with
  |some z=>Oi z
  |none=>none
 |none=>none
def Lz(P:Program)(t:TypeId):Option Ky :=
 match P.underlying t with
 |some .string=>some none
 |some (.int k)=>some (some (false,[some k]))
 |some (.struct fs) =>
  if fs.toList.all (λf=>match P.underlying f.type with | some (.int _)=>true | some .bool=>true | _=>false)then
   (lX P 20 t).map λks=>some (true,ks)
  else none
 |_=>none
def eqC(P:Program)(b:BinOp)(t:TypeId)(x y:bS):Option K :=
 match lX P 20 t with
 |some ks=>if P.eqGuardType P.depth t then none else
  match b with
  |.eql=>(vu P t).map λag => .eqv ag ks false x y
  |.neq=>(vu P t).map λag => .eqv ag ks true x y
  |_=>none
 |none=>none
def JS(ops:Array Oper):Nat->Nat->Nat
 |0,t=>t
 |n+1,t =>
  match ops.toList.find? (λo=>o.dst == some t)with
  |some o=>match o.op with
   |.fieldAddr _ (.tmp x) _=>JS ops n x
   |.indexAddr _ (.tmp x) _=>JS ops n x
   |_=>t
  |none=>t
def aac:Operand->Option Nat
 |.tmp t=>some t
 |_=>none
def isC(ps:Bool)(b:BinOp)(x:bS):Option K :=
 match b with
 |.eql=>some (.isn ps false x)
 |.neq=>some (.isn ps true x)
 |_=>none
def ZP:TypeDesc->Bool
 |.slice _=>true
 |.string=>true
 |_=>false
def kC(P:Program)(a:tT)(ops:Array Oper)(key:Nat)(o:Oper):Option K :=
 match o.op with
 |.move x=>(bR x).map .mv
 |.assign x =>
  match Di x,P.underlying o.type,o.dst with
  |true,some (.slice e),some d=>if a.ab9.contains d then(dG P e).map .LG else(bR x).map .mv
  |_,_,_=>(bR x).map .mv
 |.pick c x y=>match bR c,bR x,bR y with
  |some c',some x',some y'=>some (.pick c' x' y')
  |_,_,_=>none
 |.alloc e=>match rM P e,o.dst with
  |some z,some d=>if a.kp.contains (2000000+key)then(match P.underlying e with
    |some (.struct fs)=>(match fs.toList with
     |[_,f]=>(match P.underlying f.type,z with
      |some (.slice b),[.zK,.bu]=>some (.mp (.Ml e b) [])
      |_,_=>none)
     |_=>none)
    |_=>none)else some (if a.dW.contains d then .CK (look key [] a.nb) z else .VA (look key [] a.nb) z)
  |_,_=>none
 |.box _ x=>match bR x,o.dst with
  |some x',some d=>some (if a.dW.contains d then .GM x' else if a.ab9.contains d then(match look key [] a.nb with | [] => .Mn x' | nb => .bxn nb x')else .Mm x')
  |_,_=>none
 |.build t ps =>
  match P.underlying t,rM P t with
  |some (.struct fs),some z=>if fs.toList.all (λf=>(dG P f.type).isSome)then(uL (CU P fs) ps.toList).map (.Ml z)else none
  |some (.array _ e),some z=>match dG P e with
   |some w=>(uL (λi=>some (i*w,w)) ps.toList).map (.Ml z)
   |none=>none
  |_,_=>none
 |.buildSlice t n ps =>
  match P.underlying t with
  |some (.slice e) =>
   match dG P e,rM P e,o.dst with
   |some w,some z,some d =>
    if 0<w/\z.length=w/\n*w<=2^24 then
     (uL (λi=>some (i*w,w)) ps.toList).map λp =>
      let zs:=fM (List.range n) λ_=>z
      if n=0 && ps.isEmpty && a.kp.contains (1000000+key)then .bse else if a.ab9.contains d then .Yr n w zs p else .bsi n w zs p
    else none
   |_,_,_=>none
  |_=>none
 |.load t x=>match vu P t,dG P t,bR x with
  |some g,some s,some (.t n)=>if(g || s == 1) && decide (0<s)then some (if a.dW.contains (JS ops 8 n)then .WA (JS ops 8 n) g s n else if a.oG.contains (JS ops 8 n)then .Y7 g s (.t n)else if a.kp.contains (3000000+key)then .Wz g s (.t n)else .ld g s (.t n))else none
  |_,_,_=>none
 |.store t x y=>match dG P t,bR x,bR y with
  |some s,some (.t n),some y'=>some (if a.dW.contains (JS ops 8 n)then .Iq (JS ops 8 n) (look key [] a.nb) s n y' else(match look key none a.sx with | some os => .Wr os s (.t n) y' | none => .st (look key [] a.nb) s (.t n) y'))
  |_,_,_=>none
 |.binOp b t x y _ =>
  match P.underlying t,bR x,bR y with
  |some (.int _),some x',some y'=>some (.bin b x' y')
  |some .bool,some x',some y'=>eqC P b t x' y'
  |some (.struct _),some x',some y'=>eqC P b t x' y'
  |some (.array _ _),some x',some y'=>eqC P b t x' y'
  |some .string,some x',some y'=>(match b with | .add=>some (.IY .Wl [x',y']) | .eql=>some (.IY (.seq false) [x',y']) | .neq=>some (.IY (.seq true) [x',y']) | _=>none)
  |some (.pointer _),some x',some (.c .zK)=>isC true b x'
  |some (.pointer el),some x',some y'=>if(P.info? el).isSome then(match b with | .eql=>some (.me (.peq false) [x',y']) | .neq=>some (.me (.peq true) [x',y']) | _=>none)else none
  |some (.slice _),some x',some (.c .bu)=>isC false b x'
  |some (.interface _),some x',some (.c .od)=>(match b,y with | .eql,.const .nilIface=>some (.isi false x') | .neq,.const .nilIface=>some (.isi true x') | _,_=>none)
  |_,_,_=>none
 |.nilCheck x=>(bR x).map .nck
 |.unOp b _ x=>(bR x).map (.un b)
 |.convert s d x =>
  match P.underlying s,P.underlying d,bR x with
  |some (.int _),some (.int k),some x'=>some (.YB k x')
  |some (.slice e),some .string,some x'=>(match P.underlying e,dG P e with | some (.int .u8),some 1=>some (.me .b2s [x']) | _,_=>none)
  |some .string,some (.slice e),some x'=>(match P.underlying e,dG P e with | some (.int .u8),some 1=>some (.me .s2b [x']) | _,_=>none)
  |some (.slice e),some (.slice _),some x'=>if s=d then(match P.underlying e with | some (.int .u8)=>some (.cvz x') | _=>none)else none
  |_,_,_=>none
 |.sliceToArrayPointer t x =>
  match P.underlying t,bR x with
  |some (.array n e),some x'=>(dG P e).map λw => .me (.s2a n w) [x']
  |_,_=>none
 |.makeFunc (.func f) xs ys=>match ya xs.toList,ya ys.toList with
  |some xs',some ys'=>some (.Zj f xs' ys')
  |_,_=>none
 |.makeSlice t x y =>
  match P.underlying t with
  |some (.slice e) =>
   match dG P e,(P.info? e).map (·.bytes),rM P e,bR x,bR y with
   |some w,some b,some z,some x',some y'=>if 0<w/\0<b then some (.mks w b z x' y')else none
   |_,_,_,_,_=>none
  |_=>none
 |.slice t x lo hi mx =>
  match P.underlying t,bR x,zM lo,zM hi,zM mx with
  |some (.slice e),some x',some lo',some hi',some mx'=>(dG P e).map λw => .slc w x' lo' hi' mx'
  |some (.array n e),some x',some lo',some hi',some none=>(dG P e).map λw => .S7 n w x' lo' hi'
  |some .string,some x',some lo',some hi',some none=>some (.IY (.Pd lo'.isSome hi'.isSome) (x'::(lo'.toList++hi'.toList)))
  |_,_,_,_,_=>none
 |.fieldAddr s x i =>
  match P.underlying s,bR x with
  |some (.struct fs),some x' =>
   match CU P fs i with
   |some (off,sz)=>if 0<sz then some (.Mq off x')else none
   |none=>none
  |_,_=>none
 |.field s x i =>
  match P.underlying s,bR x with
  |some (.struct fs),some x' =>
   match fs[i]? with
   |some f=>match vu P f.type,dG P f.type with
    |some g,some sz=>if g || sz == 1 then some (.fld g f.offset sz x')else none
    |_,_=>none
   |none=>none
  |_,_=>none
 |.indexAddr t x i =>
  match P.underlying t,bR x,bR i with
  |some (.array n e),some x',some i'=>(dG P e).map λw => .Mt n w x' i'
  |some (.slice e),some x',some i'=>(dG P e).map λw => .IL w x' i'
  |_,_,_=>none
 |.index t x i =>
  match P.underlying t,bR x,bR i with
  |some (.array n e),some x',some i'=>match vu P e,dG P e with
   |some g,some w=>if g || w == 1 then some (.OB g n w x' i')else none
   |_,_=>none
  |some .string,some x',some i'=>some (.IY .MD [x',i'])
  |_,_,_=>none
 |.extract x i=>(bR x).map (.ext · i)
 |.call c =>
  match c.callee with
  |.value f=>match bR f,ya c.args.toList with
   |some f',some xs=>some (.call (a.kp.contains key) f' xs)
   |_,_=>none
  |.builtin .len =>
   match c.argTypes.toList,c.args.toList with
   |t::_,x::_=>match P.underlying t,bR x with
    |some (.slice _),some x'=>some (.My x')
    |some .string,some x'=>some (.IY .Ry [x'])
    |some (.map _ _),some x'=>some (.mp .len [x'])
    |some (.array n _),_=>some (.SI n)
    |some (.pointer r),_=>(match P.underlying r with | some (.array n _)=>some (.SI n) | _=>none)
    |_,_=>none
   |_,_=>none
  |.builtin .recover=>some .RO
  |.builtin .min=>match c.args.toList with
   |[x,y]=>(match bR x,bR y with | some x',some y'=>some (.mn x' y') | _,_=>none)
   |_=>none
  |.builtin .max=>match c.args.toList with
   |[x,y]=>(match bR x,bR y with | some x',some y'=>some (.mx x' y') | _,_=>none)
   |_=>none
  |.builtin .append =>
   match c.argTypes.toList,c.args.toList with
   |[t,u],[x,y]=>match P.underlying t,P.underlying u,bR x,bR y with
    |some (.slice e),some uu,some x',some y' =>
     if ZP uu=true then(match dG P e,(P.info? e).map (·.bytes),rM P e with
     |some w,some b,some z=>if 0<w/\0<b/\b<=2^20/\z.length=w then
       some (if Di x && !(o.dst.any a.ab9.contains)then .cpi w b y' else if a.kp.contains (1000000+key) && (aac x).isSome then .ape w b ((aac x).getD 0) y' else if a.kp.contains key then .apz w b x' y' else(match look key none a.sx with | some os => .VC os w b x' y' | none => .app w b x' y'))else none
     |_,_,_=>none)else none
    |_,_,_,_=>none
   |_,_=>none
  |_=>none
 |.makeInterface t x=>if P.concrete t=true then(bR x).map (.Zk t)else none
 |.typeAssert x _ t ok =>
  match P.underlying t,bR x with
  |some (.interface _),_=>none
  |some _,some x'=>if ok then(zvC P t).map λz => .tas t (some z) x' else some (.tas t none x')
  |_,_=>none
 |.panic x=>(bR x).map .Zx
 |.makeMap _ none=>some (.mp .make [])
 |.makeMap t (some (.const (.int _ _)))=>(match P.underlying t with | some (.map _ _)=>some (.mp .make []) | _=>none)
 |.range t x =>
  match P.underlying t,bR x with
  |some (.map _ _),some x'=>some (.mp .rng [x'])
  |_,_=>none
 |.entry x=>(match bR x with
  |some x'=>some (.mp .ent [x'])
  |none=>none)
 |.lookup t x i ok =>
  match P.underlying t,bR x,bR i with
  |some (.map kt et),some x',some i'=>(match Lz P kt,zvC P et with
   |some ky,some z=>some (.mp (.get ky z ok) [x',i'])
   |_,_=>none)
  |_,_,_=>none
 |.mapUpdate t m x y =>
  match P.underlying t,bR m,bR x,bR y with
  |some (.map kt _),some m',some x',some y'=>(match Lz P kt with
   |some ky=>some (.mp (.put ky) [m',x',y'])
   |none=>none)
  |_,_,_,_=>none
 |.insert t m x y =>
  match P.underlying t,bR m,bR x,bR y with
  |some (.map kt _),some m',some x',some y'=>(match Lz P kt with
   |some ky=>some (.mp (.put ky) [m',x',y'])
   |none=>none)
  |_,_,_,_=>none
 |_=>none
def K.makes:K->Bool
 |.CK .. => true
 |.GM _=>true
 |_=>false
def K.ajT:K->Bool
 |.Iq .. => true
 |_=>false
def We(P:Program)(a:tT)(n sQ:Nat)(ops:Array Oper)(DU:Bool)(i:Nat)(o:Oper):Option Op :=
 match kC P a ops (sQ*1000+i) o with
 |some k =>
  match(match o.guard with
   |none=>some none
   |some (j,b)=>match(ops[j]?).bind (·.dst)with
    |some d=>some (some (d,b))
    |none=>none),(match o.dst with | some d=>decide (d<n) | none=>true)with
  |some g,true=>if(match o.dst with | some d => !(a.dW.contains d) || (k.makes && o.guard.isNone) | none => !k.makes) && (!k.ajT || o.dst.isNone)then some {dst:=o.dst,GQ:=g,DU,k }else none
  |_,_=>none
 |none=>none
def OM(P:Program)(a:tT)(n sQ:Nat)(ops:Array Oper)(tail:Nat):Nat->List Oper->Option (List Op)
 |_,[]=>some []
 |i,o::r=>match We P a n sQ ops (decide (i<tail) && !(a.kp.contains (sQ*1000+i))) i o,OM P a n sQ ops tail (i+1) r with
  |some x,some xs=>some (x::xs)
  |_,_=>none
def Mo.calm:Mo->Bool
 |.get .. => true
 |.len=>true
 |.ent=>true
 |_=>false
def K.calm:K->Bool
 |.st .. => false
 |.Wr .. => false
 |.app .. => false
 |.VC .. => false
 |.apz .. => false
 |.cvz _=>false
 |.LG _=>false
 |.VA .. => false
 |.Mn _=>false
 |.bxn .. => false
 |.Yr .. => false
 |.mks .. => false
 |.CK nb _=>nb.isEmpty
 |.Iq _ nb _ _ _=>nb.isEmpty
 |.mp o _=>o.calm
 |.Zx _=>false
 |.RO=>false
 |_=>true
def K.pure:K->Bool
 |.ld .. => false
 |.Wz .. => false
 |.S7 .. => false
 |.cpi .. => false
 |.ape .. => false
 |.call .. => false
 |.mp .. => false
 |.me .. => false
 |k=>k.calm
def bS.tmps:bS->List Nat
 |.t n=>[n]
 |.c _=>[]
def K.tmps:K->List Nat
 |.mv x=>x.tmps
 |.LG _=>[]
 |.pick c a b=>c.tmps++a.tmps++b.tmps
 |.VA .. => []
 |.CK .. => []
 |.Mm x=>x.tmps
 |.Mn x=>x.tmps
 |.bxn _ x=>x.tmps
 |.GM x=>x.tmps
 |.WA v _ _ a=>[v,a]
 |.Iq v _ _ a x=>[v,a]++x.tmps
 |.Ml _ ps=>fM ps λp=>p.2.2.tmps
 |.bsi _ _ _ ps=>fM ps λp=>p.2.2.tmps
 |.Yr _ _ _ ps=>fM ps λp=>p.2.2.tmps
 |.ld _ _ a=>a.tmps
 |.Y7 _ _ a=>a.tmps
 |.Wz _ _ a=>a.tmps
 |.isn _ _ x=>x.tmps
 |.nck x=>x.tmps
 |.st _ _ a x=>a.tmps++x.tmps
 |.Wr os _ a x=>a.tmps++x.tmps++os
 |.bin _ x y=>x.tmps++y.tmps
 |.eqv _ _ _ x y=>x.tmps++y.tmps
 |.un _ x=>x.tmps
 |.YB _ x=>x.tmps
 |.Zj _ xs ys=>fM xs bS.tmps++fM ys bS.tmps
 |.mks _ _ _ l c=>l.tmps++c.tmps
 |.slc _ x lo hi m=>x.tmps++(lo.map bS.tmps).getD []++(hi.map bS.tmps).getD []++(m.map bS.tmps).getD []
 |.S7 _ _ x lo hi=>x.tmps++(lo.map bS.tmps).getD []++(hi.map bS.tmps).getD []
 |.Mq _ x=>x.tmps
 |.fld _ _ _ x=>x.tmps
 |.Mt _ _ x i=>x.tmps++i.tmps
 |.IL _ x i=>x.tmps++i.tmps
 |.OB _ _ _ x i=>x.tmps++i.tmps
 |.My x=>x.tmps
 |.SI _=>[]
 |.mn x y=>x.tmps++y.tmps
 |.mx x y=>x.tmps++y.tmps
 |.app _ _ s x=>s.tmps++x.tmps
 |.VC os _ _ s x=>s.tmps++x.tmps++os
 |.apz _ _ s x=>s.tmps++x.tmps
 |.cpi _ _ x=>x.tmps
 |.cvz x=>x.tmps
 |.bse=>[]
 |.ape _ _ v x=>v::x.tmps
 |.ext x _=>x.tmps
 |.IY _ xs=>fM xs bS.tmps
 |.mp _ xs=>fM xs bS.tmps
 |.me _ xs=>fM xs bS.tmps
 |.Zk _ x=>x.tmps
 |.tas _ _ x=>x.tmps
 |.isi _ x=>x.tmps
 |.Zx x=>x.tmps
 |.RO=>[]
 |.call _ f xs=>f.tmps++fM xs bS.tmps
def Op.Ij(o:Op):List Nat:=(match o.GQ with | some (g,_)=>[g] | none=>[])++o.k.tmps
def iL:List Oper->List Nat->List Nat
 |[],acc=>acc
 |o::r,acc=>iL r (acc++[o.after.toList.foldl (λs e=>if Region.binds .any e then s ||| 2^e.on ||| acc.getD e.on 0 else s) 0])
def Dx(bs:List Nat):Nat :=
 go bs.length
where
 go:Nat->Nat
  |0=>0
  |n+1=>if bs.getD n 0=2^n-1 then go n else n+1
def Op.defs(o:Op):List Nat:=o.dst.toList++(match o.k with | .Iq v _ _ _ _=>[v] | _=>[])
def Op.adj(o p:Op):Bool :=
 o.defs.any (λd=>p.defs.contains d || p.Ij.contains d) || o.Ij.any (λd=>p.defs.contains d)
def Op.still(op:Op):Bool:=op.k.calm && op.DU
def Op.far(o p:Op):Bool :=
 o.GQ.isNone && p.GQ.isNone &&
 match o.k,p.k with
 |.Wr os _ _ _,.ld _ _ (.t m)=>os.contains m
 |.ld _ _ (.t m),.Wr os _ _ _=>os.contains m
 |.Wr os _ _ _,.Wr _ _ (.t m) _=>os.contains m
 |.VC os _ _ _ _,.ld _ _ (.t m)=>os.contains m
 |.ld _ _ (.t _),.VA [] _=>true
 |.VC ..,.Wz _ _ (.t _)=>true
 |_,_=>false
def Op.adr(o p:Op):Bool :=
 match o,p with
 |⟨none,none,_,.Iq v [] _ a x⟩,⟨some d,none,_,.Mq _ (.t m)⟩=>decide (m=v/\d≠v/\d≠a/\d ∉ x.tmps)
 |_,_=>false
def Op.free(o p:Op):Bool:=o.adr p || (!(o.adj p) && (o.still && p.still || o.k.pure || p.k.pure || o.far p))
def K0(bs:List Nat):Nat->List Op->Bool
 |_,[]=>true
 |i,o::r=>after i (i+1) o r && K0 bs (i+1) r
where
 after (i:Nat):Nat->Op->List Op->Bool
  |_,_,[]=>true
  |j,o,p::r=>(o.free p || (bs.getD j 0).testBit i) && after i (j+1) o r
def Hg:Nat->List Oper->Bool
 |_,[]=>true
 |i,o::r=>(o.after.toList.all λe => !Region.binds .any e || decide (e.on<i)) && Hg (i+1) r
def K4(live:List Nat):Option Nat->List Op->bV
 |some j,xs=>match xs.drop j with
  |x::r => .RH live (xs.take j) x r
  |[] => .sQ live xs
 |none,xs => .sQ live xs
def SX(P:Program)(a:tT)(n:Nat)(id:Nat)(ops:Array Oper)(draw:Bool):Option bV :=
  if draw then
   let bs:=iL ops.toList []
   let tail:=Dx bs
   match OM P a n id ops tail 0 ops.toList with
   |some xs=>if K0 bs 0 (xs.take tail) && Hg 0 ops.toList && xs.all (λx=>x.k != .RO)then some (K4 (look id [] a.live) ((look id none a.fw).filter λj=>decide (tail<=j)) xs)else none
   |none=>none
  else(OM P a n id ops 0 0 ops.toList).map (K4 (look id [] a.live) (look id none a.fw))
def AW(c:bV):List Nat->bV
 |[]=>c
 |vs => .seq (.cH vs) c
def Et:bV:=.sQ [] [⟨none,none,false,.isn false false (.c .undef)⟩]
def Oo:Code->Option (bS×List bS)
 |.region _ ops false =>
  match ops.toList with
  |[o]=>(match o.op,o.dst,o.guard with
   |.defer c,none,none=>(match c.callee with
    |.value f=>(match bR f,ya c.args.toList with
     |some f',some xs=>some (f',xs)
     |_,_=>none)
    |_=>none)
   |_,_,_=>none)
  |_=>none
 |_=>none
def VL(P:Program)(a:tT)(n:Nat):Code->Option (bV×bS×List bS)
 |.region id ops false =>
  match ops.toList with
  |[m,o]=>(match o.op,o.dst,o.guard,m.dst with
   |.defer c,none,none,some t=>(match c.callee with
    |.value f=>(match We P a n id ops false 0 m,bR f,ya c.args.toList with
     |some op,some f',some xs=>if op.k=.RO then none else some (.sQ (t::(fM xs bS.tmps++look id [] a.live)) [op],f',xs)
     |_,_,_=>none)
    |_=>none)
   |_,_,_,_=>none)
  |_=>none
 |_=>none
def SL(a:tT)(n:Nat):Code->Option (Nat×Nat×Nat)
 |.loop (.seq (.region _ ops false) _) =>
  match ops.toList with
  |[o,p]=>(match o.op,o.dst,o.guard,p.op,p.dst,p.guard with
   |.next (.tmp it) false,some nx,none,.extract (.tmp nx') 0,some ok,none =>
    if nx'=nx/\nx<n/\ok<n/\nx≠ok/\nx ∉ a.dW/\ok ∉ a.dW then some (it,nx,ok)else none
   |_,_,_,_,_,_=>none)
  |_=>none
 |_=>none
def aby(a:tT)(n id:Nat)(x:Code)(x':bV):bV :=
 match SL a n x,x' with
 |some (it,nx,ok),.loop live _ (.seq _ c) => .iC live (.t it) nx ok id c .Kk
 |_,x' => .dK id x'
def acF(a:tT):Code->Bool
 |.region id ops _=>a.bD.contains (1000000+id) && decide (2<ops.size)
 |_=>false
def Wm(P:Program)(a:tT)(n:Nat)(x:Code)(x' y':bV):bV :=
 match Oo x with
 |some (f,xs) => .VK f xs y'
 |none =>
  match VL P a n x with
  |some (c,f,xs) => .seq c (.VK f xs y')
  |none =>
  match x,x' with
  |.seq _ (.block _ _),.seq p' (.iC live it nx ok b c .Kk) => .seq p' (.iC live it nx ok b c y')
  |_,_ => .seq x' (if acF a x then .sgm y' else y')
def L5(c:bV):bV:=match iJ c with | some _=>Et | none => .seq .Kk c
def cF(P:Program)(a:tT)(n:Nat)(dK:Nat):Code->Option bV
 |.skip=>some .Kk
 |.region id ops draw=>match SX P a n id ops draw with
  |some c=>some (AW c (look id [] a.fz))
  |none=>some Et
 |.seq x y=>match cF P a n dK x,cF P a n dK y with
  |some x',some y'=>some (Wm P a n x x' y')
  |_,_=>none
 |.cond c x y=>match bR c,cF P a n dK x,cF P a n dK y with
  |some c',some x',some y'=>some (.ite c' x' y')
  |_,_,_=>none
 |.block id x=>(cF P a n id x).map (aby a n id x)
 |.loop x=>(cF P a n dK x).map (.loop (look dK [] a.ady) (a.bD.contains dK))
 |.rangeFunc f ps x y=>match bR f,cF P a n dK x,cF P a n dK y with
  |some f',some x',some y'=>if ps.toList.all (λt=>decide (t<n) && !(a.dW.contains t))then some (.O1 (look dK [] a.ady) f' ps.toList x' y')else none
  |_,_,_=>none
 |.exit id=>some (.exit id)
 |.ret=>some .ret
 |.scope x=>(cF P a n dK x).map L5
 |.label _=>some .Kk
 |_=>some Et
def acw(P:Program)(a:tT):ResultVar->Option G5
 |.tmp t=>some (.t t)
 |.cell x t=>match vu P t,dG P t with
  |some g,some s=>if(g || s == 1) && decide (0<s)then some (if a.dW.contains x then .v x g s else .c x g s)else none
  |_,_=>none
def JR(P:Program)(a:tT):List ResultVar->Option (List G5)
 |[]=>some []
 |r::rs=>match acw P a r,JR P a rs with
  |some x,some xs=>some (x::xs)
  |_,_=>none
def fnC(P:Program)(a:tT)(f:Func):Option Fn :=
 match f.body with
 |some c=>match cF P a f.ntmps 0 c,JR P a f.results.toList with
  |some c',some rs=>if f.params.size+f.nfree<=f.ntmps then some {SQ:=f.params.size+f.nfree,res:=rs,body:=c' }else none
  |_,_=>none
 |none=>none
def Rd(w:World)(b o:Nat)(vs:List Value):Prop:=∀(j:Nat) x,vs[j]?=some x->w.cell? ⟨b,o+j,none⟩=some x
theorem Rd.take{w:World}{b o:Nat}{vs:List Value}(h:Rd w b o vs)(n:Nat):Rd w b o (vs.take n):=λj x e=>h j x (by
 rw[dp]at e;split at e<;>simp_all)
theorem Rd.drop{w:World}{b o:Nat}{vs:List Value}(h:Rd w b o vs)(n:Nat):Rd w b (o+n) (vs.drop n):=λj x e=>by
 have:=h (n+j) x (by rw[ea]at e;exact e);rw[show o+n+j=o+(n+j)from by omega];exact this
theorem add_eq(b o n:Nat):Addr.add ⟨b,o,none⟩ n=⟨b,o+n,none⟩:=by
 unfold Addr.add;split
 .subst_vars;rfl
 .rfl
section types
variable {P:Program} {t:TypeId}
theorem run_typeInfo{i:TypeInfo}(h:P.info? t=some i)(w:World):(typeInfo t).run P w=.ok i w:=by
 simp[typeInfo,h]
theorem run_sizeOf{s:Nat}(h:dG P t=some s)(w:World):(sizeOf t).run P w=.ok s w:=by
 simp only[dG,ad]at h;obtain⟨i,hi,rfl⟩:=h;simp[sizeOf,run_typeInfo hi]
theorem bG{d:TypeDesc}(h:P.underlying t=some d)(w:World):(underlying t).run P w=.ok d w:=by
 simp[underlying,h]
theorem Fw{b:Bool}(h:vu P t=some b)(w:World):(isAgg t).run P w=.ok b w:=by
 unfold vu at h;cases hu:P.underlying t with
 |none=>simp[hu]at h
 |some d =>
  rw[hu]at h;simp only[isAgg,Sem.run_bind,bG hu,Result.andThen_ok];cases d<;>simp_all
theorem gI{z:Value}{i:TypeInfo}(h:P.info? t=some i)(hz:i.zero=some z)(w:World):(zeroValue t).run P w=.ok z w:=by
 simp[zeroValue,run_typeInfo h,hz]
end types
theorem RK(g:G){v:Value}{d:D}(h:acZ v=some d):bT g d v/\v.oneCell'=true:=by
 unfold acZ at h;split at h<;>first | (cases h;exact⟨by constructor,rfl⟩) | cases h
theorem K1(g:G){vs:List Value}{ds:List D}(h:Iy vs=some ds):bP g ds vs/\∀x∈vs,x.oneCell'=true:=by
 induction vs generalizing ds with
 |nil=>simp only[Iy,ae]at h;subst h;exact⟨.nil,by simp⟩
 |cons v vs ih =>
  simp only[Iy]at h;split at h
  .rename_i d ds' h1 h2;cases h;obtain⟨h3,h4⟩:=ih h2;obtain⟨h5,h6⟩:=RK g h1;exact⟨.cons _ _ _ _ h5 h3,by simp only[bx];rintro x (rfl | hx);exact h6;exact h4 x hx⟩
  .cases h
theorem K3(g:G){v:Value}{d:D}(h:Oi v=some d):bT g d v:=by
 unfold Oi at h;split at h
 .rename_i cs;simp only[ad]at h;obtain⟨ds,h1,rfl⟩:=h;obtain⟨h2,h3⟩:=K1 g h1;exact .agg ds cs h2 h3
 .exact(RK g h).1
theorem tP{P:Program}{t:TypeId}(g:G){z:List D}(h:rM P t=some z):∃i v,P.info? t=some i/\i.zero=some v/\bP g z v.cells.toList/\∀x∈v.cells.toList,x.oneCell'=true:=by
 unfold rM at h;split at h
 .rename_i i hi;split at h
  .rename_i v hv;obtain⟨h2,h3⟩:=K1 g h;exact⟨i,v,hi,hv,h2,h3⟩
  .cases h
 .cases h
theorem E0{P:Program}{t:TypeId}{w:World}{b o sz:Nat}{ag:Bool}{vs:List Value}(hag:vu P t=some ag)(hsz:dG P t=some sz)(hone:(ag || sz == 1)=true)
  (hr:Rd w b o vs) (hlen:sz<=vs.length):
  ∃v,(loadVar t ⟨b,o,none⟩).run P w=.ok v w/\(if ag then v=.agg (vs.take sz).toArray else ∃x r,vs=x::r/\v=x):=by
 cases ag with
 |true =>
  have h1:(loadCells ⟨b,o,none⟩ sz).run P w=.ok (vs.take sz).toArray w:=by
   have:=run_loadCells_list (P:=P) w ⟨b,o,none⟩ (vs.take sz) (λj v e=>by rw[add_eq];exact hr.take sz j v e);rwa[bY,Nat.min_eq_left hlen]at this
  exact⟨_,by simp[loadVar,Fw hag,run_sizeOf hsz,h1],rfl⟩
 |false =>
  simp only[Bool.false_or,beq_iff_eq]at hone;subst hone;cases vs with
  |nil=>simp at hlen
  |cons x r =>
   have:=hr 0 x rfl;exact⟨x,by simp only[Nat.add_zero]at this;simp[loadVar,Fw hag,this],x,r,rfl,rfl⟩
theorem zQ{P:Program}{b:Nat}{el:TypeId}:∀(ps:List Value) (w:World) (o i:Nat) (c:Array Value),(∀x∈ps,x.oneCell'=true) ->
  w.heap[b]?=some (.cells c el (0,0))->o+i+ps.length<=c.size ->
  ∃w' c',(storeCells ⟨b,o,none⟩ ps i).run P w=.ok () w'/\w'.heap[b]?=some (.cells c' el (0,0))/\c'.size=c.size /\
   (∀j,c'[j]?=if o+i<=j/\j<o+i+ps.length then ps[j-(o+i)]? else c[j]?) /\
   (∀x,x≠b->w'.heap[x]?=w.heap[x]?)/\w'.heap.size=w.heap.size/\w'.os=w.os/\w'.tape=w.tape/\w'.output=w.output
 |[],w,o,i,c,_,hb,_=>⟨w,c,by simp[storeCells],hb,rfl,λj=>by rw[if_neg (by simp only[bd];omega)],λ_ _=>rfl,rfl,rfl,rfl,rfl⟩
 |p::ps,w,o,i,c,h1,hb,hl=>by
  simp only[aE]at hl;have hp:=h1 p (by simp);have hcell:w.cell? ⟨b,o+i,none⟩=some (c[o+i]'(by omega)):=by
   simp only[World.cell?,hb];simp
  have hfz:w.frozen? ⟨b,o+i,none⟩=false:=by simp[World.frozen?,hb]
  have hb1:(w.setCell ⟨b,o+i,none⟩ p).heap[b]?=some (.cells (c.setIfInBounds (o+i) p) el (0,0)):=by
   simp[World.setCell,ew,hb]
  obtain⟨w',c',hrun,hb',hs,hc,ho,hsz,e1,e2,e3⟩:=zQ ps (w.setCell ⟨b,o+i,none⟩ p) o (i+1) (c.setIfInBounds (o+i) p) (λx hx=>h1 x (by simp[hx])) hb1 (by simp;omega);refine⟨w',c',?_,hb',by simpa using hs,?_,?_,by simpa using hsz,e1,e2,e3⟩
  .simp only[storeCells,Sem.run_bind,add_eq,run_store P w _ p .plain hp,hcell,hfz];simpa using hrun
  .intro j;rw[hc j];by_cases hj:j=o+i
   .subst hj;rw[if_neg (by omega),if_pos (by simp)];rw[Array.getElem?_setIfInBounds_self_of_lt (by omega)];simp
   .by_cases hj2:o+(i+1)<=j/\j<o+(i+1)+ps.length
    .rw[if_pos hj2,if_pos (by simp;omega)];rw[show j-(o+i)=(j-(o+(i+1)))+1 from by omega];simp
    .rw[if_neg hj2,if_neg (by simp;omega)];rw[Array.getElem?_setIfInBounds_ne (by omega)]
  .intro x hx;rw[ho x hx];simp only[World.setCell,ew];rw[if_neg (by simpa using λe=>hx e.symm)]
theorem H8{P:Program}{t:TypeId}{w:World}{b o sz:Nat}{el:TypeId}{c:Array Value}{v:Value}(hsz:dG P t=some sz)(hv:v.cells.size=sz)
  (h1:∀x∈v.cells.toList,x.oneCell'=true) (hb:w.heap[b]?=some (.cells c el (0,0))) (hl:o+sz<=c.size):
  ∃w' c',(storeVar t ⟨b,o,none⟩ v).run P w=.ok () w'/\w'.heap[b]?=some (.cells c' el (0,0))/\c'.size=c.size /\
   (∀j,c'[j]?=if o<=j/\j<o+sz then v.cells.toList[j-o]? else c[j]?) /\
   (∀x,x≠b->w'.heap[x]?=w.heap[x]?)/\w'.heap.size=w.heap.size/\w'.os=w.os/\w'.tape=w.tape/\w'.output=w.output:=by
 obtain⟨w',c',hrun,rest⟩:=zQ (P:=P) (b:=b) (el:=el) v.cells.toList w o 0 c h1 hb (by simp[hv];omega);refine⟨w',c',?_,?_⟩
 .simp only[storeVar,Sem.run_bind,run_sizeOf hsz,Result.andThen_ok,hv];simpa using hrun
 .simpa[hv]using rest
end Go.Abs
