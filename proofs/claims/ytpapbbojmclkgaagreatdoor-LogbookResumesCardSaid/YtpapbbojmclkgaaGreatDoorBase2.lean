import GoSem.Core.Program
import GoSem.Core.Layout
import Derived.Laws.Build
import Derived.Test.YtpapbbojmclkgaaGreatDoorBase1
set_option linter.all false
namespace Go.aw
open Go
structure sS where
 live:List (Nat×List Nat)
 adD:List (Nat×List Nat)
 bC:List Nat
 acj:List Nat
 ed:List Nat
 nb:List (Nat×List (Nat×Nat))
 kp:List Nat
 fz:List (Nat×List Nat)
 nB:List Nat
 sx:List (Nat×Option (List Nat))
 fy:List (Nat×Option Nat):=[]
def look{α:Type}(n:Nat)(d:α):List (Nat×α)->α
 |[]=>d
 |(k,v)::r=>if k=n then v else look n d r
def ac7:Value->Option D
 |.bool b=>some (.bool b)
 |.int k n=>some (.int k n)
 |.string s=>some (.str s.data.toList)
 |.pointer none=>some .zV
 |.slice none 0 0=>some .bB
 |.nilFunc=>some .pc
 |.nilIface=>some .mQ
 |.map none=>some .undef
 |_=>none
def IC:List Value->Option (List D)
 |[]=>some []
 |v::vs=>match ac7 v,IC vs with
  |some d,some ds=>some (d::ds)
  |_,_=>none
def Om:Value->Option D
 |.agg cs=>(IC cs.toList).map .agg
 |v=>ac7 v
def bT:Operand->Option bU
 |.tmp t=>some (.t t)
 |.const v=>(Om v).map .c
 |.func f=>some (.c (.fn f [] []))
 |.global _=>none
def yh:List Operand->Option (List bU)
 |[]=>some []
 |x::xs=>match bT x,yh xs with
  |some y,some ys=>some (y::ys)
  |_,_=>none
def zX:Option Operand->Option (Option bU)
 |none=>some none
 |some x=>(bT x).map some
def dL(P:Program)(t:TypeId):Option Nat:=(P.info? t).map (·.size)
def uS(P:Program)(t:TypeId):Option Bool :=
 match P.underlying t with
 |some (.struct _) | some (.array _ _)=>some true
 |some _=>some false
 |none=>none
def pN(P:Program)(t:TypeId):Option (List D) :=
 match P.info? t with
 |some i=>match i.zero with
  |some z=>IC z.cells.toList
  |none=>none
 |none=>none
def Dq:Operand->Bool
 |.const (.slice none 0 0)=>true
 |_=>false
def ud(place:Nat->Option (Nat×Nat)):List (Nat×Operand)->Option (List (Nat×Nat×bU))
 |[]=>some []
 |(i,x)::r=>match place i,bT x,ud place r with
  |some (o,s),some y,some r'=>some ((o,s,y)::r')
  |_,_,_=>none
def C6(P:Program)(fs:Array Field)(i:Nat):Option (Nat×Nat) :=
 match fs[i]? with
 |some f=>(dL P f.type).map λs=>(f.offset,s)
 |none=>none
def lk(P:Program):Nat->TypeId->Option (List (Option IntKind))
 |0,_=>none
 |d+1,t =>
  match P.underlying t with
  |some (.int k)=>some [some k]
  |some .bool=>some [none]
  |some (.struct fs)=>if P.stoodInHeld t then none else kindsF P (lk P d) 0 fs.toList
  |some (.array n e)=>match lk P d e with
   |some ks=>if dL P e == some ks.length && decide (0<ks.length)then some (fM (List.range n) λ_=>ks)else none
   |none=>none
  |_=>none
where
 kindsF (P:Program) (f:TypeId->Option (List (Option IntKind))) (o:Nat):List Field->Option (List (Option IntKind))
  |[]=>some []
  |x::r=>match f x.type with
   |some ks=>if x.name ≠ "_" /\ x.offset=o/\dL P x.type=some ks.length/\0<ks.length then(kindsF P f (o+ks.length) r).map (ks ++ ·)else none
   |none=>none
def zvC(P:Program)(t:TypeId):Option D :=
 match P.info? t with
 |some i=>match i.zero with
  |some z=>Om z
  |none=>none
 |none=>none
def LF(P:Program)(t:TypeId):Option Ky :=
 match P.underlying t with
 |some .string=>some none
 |some (.int k)=>some (some (false,[some k]))
 |some (.struct fs) =>
  if fs.toList.all (λf=>match P.underlying f.type with | some (.int _)=>true | some .bool=>true | _=>false)then
   (lk P 20 t).map λks=>some (true,ks)
  else none
 |_=>none
def eqC(P:Program)(b:BinOp)(t:TypeId)(x y:bU):Option K :=
 match lk P 20 t with
 |some ks=>if P.eqGuardType P.depth t then none else
  match b with
  |.eql=>(uS P t).map λag => .eqv ag ks false x y
  |.neq=>(uS P t).map λag => .eqv ag ks true x y
  |_=>none
 |none=>none
def JT(ops:Array Oper):Nat->Nat->Nat
 |0,t=>t
 |n+1,t =>
  match ops.toList.find? (λo=>o.dst == some t)with
  |some o=>match o.op with
   |.fieldAddr _ (.tmp x) _=>JT ops n x
   |.indexAddr _ (.tmp x) _=>JT ops n x
   |_=>t
  |none=>t
def aal:Operand->Option Nat
 |.tmp t=>some t
 |_=>none
def isC(ps:Bool)(b:BinOp)(x:bU):Option K :=
 match b with
 |.eql=>some (.isn ps false x)
 |.neq=>some (.isn ps true x)
 |_=>none
def ZX:TypeDesc->Bool
 |.slice _=>true
 |.string=>true
 |_=>false
def kC(P:Program)(a:sS)(ops:Array Oper)(key:Nat)(o:Oper):Option K :=
 match o.op with
 |.move x=>(bT x).map .mv
 |.assign x =>
  match Dq x,P.underlying o.type,o.dst with
  |true,some (.slice e),some d=>if a.acj.contains d then(dL P e).map .LL else(bT x).map .mv
  |_,_,_=>(bT x).map .mv
 |.pick c x y=>match bT c,bT x,bT y with
  |some c',some x',some y'=>some (.pick c' x' y')
  |_,_,_=>none
 |.alloc e=>match pN P e,o.dst with
  |some z,some d=>if a.kp.contains (2000000+key)then(match P.underlying e with
    |some (.struct fs)=>(match fs.toList with
     |[_,f]=>(match P.underlying f.type,z with
      |some (.slice b),[.zV,.bB]=>some (.mp (.Mp e b) [])
      |_,_=>none)
     |_=>none)
    |_=>none)else some (if a.ed.contains d then .CV (look key [] a.nb) z else .Un (look key [] a.nb) z)
  |_,_=>none
 |.box _ x=>match bT x,o.dst with
  |some x',some d=>some (if a.ed.contains d then .GD x' else if a.acj.contains d then(match look key [] a.nb with | [] => .Mr x' | nb => .bxn nb x')else .Mq x')
  |_,_=>none
 |.build t ps =>
  match P.underlying t,pN P t with
  |some (.struct fs),some z=>if fs.toList.all (λf=>(dL P f.type).isSome)then(ud (C6 P fs) ps.toList).map (.Mp z)else none
  |some (.array _ e),some z=>match dL P e with
   |some w=>(ud (λi=>some (i*w,w)) ps.toList).map (.Mp z)
   |none=>none
  |_,_=>none
 |.buildSlice t n ps =>
  match P.underlying t with
  |some (.slice e) =>
   match dL P e,pN P e,o.dst with
   |some w,some z,some d =>
    if 0<w/\z.length=w/\n*w<=2^24 then
     (ud (λi=>some (i*w,w)) ps.toList).map λp =>
      let zs:=fM (List.range n) λ_=>z
      if n=0 && ps.isEmpty && a.kp.contains (1000000+key)then .bse else if a.acj.contains d then .YB n w zs p else .bsi n w zs p
    else none
   |_,_,_=>none
  |_=>none
 |.load t x=>match uS P t,dL P t,bT x with
  |some g,some s,some (.t n)=>if(g || s == 1) && decide (0<s)then some (if a.ed.contains (JT ops 8 n)then .WZ (JT ops 8 n) g s n else if a.nB.contains (JT ops 8 n)then .WY g s (.t n)else if a.kp.contains (3000000+key)then .WX g s (.t n)else .ld g s (.t n))else none
  |_,_,_=>none
 |.store t x y=>match dL P t,bT x,bT y with
  |some s,some (.t n),some y'=>some (if a.ed.contains (JT ops 8 n)then .Je (JT ops 8 n) (look key [] a.nb) s n y' else(match look key none a.sx with | some os => .RL os s (.t n) y' | none => .st (look key [] a.nb) s (.t n) y'))
  |_,_,_=>none
 |.binOp b t x y _ =>
  match P.underlying t,bT x,bT y with
  |some (.int _),some x',some y'=>some (.bin b x' y')
  |some .bool,some x',some y'=>eqC P b t x' y'
  |some (.struct _),some x',some y'=>eqC P b t x' y'
  |some (.array _ _),some x',some y'=>eqC P b t x' y'
  |some .string,some x',some y'=>(match b with | .add=>some (.Is .Z5 [x',y']) | .eql=>some (.Is (.seq false) [x',y']) | .neq=>some (.Is (.seq true) [x',y']) | _=>none)
  |some (.pointer _),some x',some (.c .zV)=>isC true b x'
  |some (.pointer el),some x',some y'=>if(P.info? el).isSome then(match b with | .eql=>some (.me (.peq false) [x',y']) | .neq=>some (.me (.peq true) [x',y']) | _=>none)else none
  |some (.slice _),some x',some (.c .bB)=>isC false b x'
  |some (.interface _),some x',some (.c .mQ)=>(match b,y with | .eql,.const .nilIface=>some (.isi false x') | .neq,.const .nilIface=>some (.isi true x') | _,_=>none)
  |_,_,_=>none
 |.nilCheck x=>(bT x).map .nck
 |.unOp b _ x=>(bT x).map (.un b)
 |.convert s d x =>
  match P.underlying s,P.underlying d,bT x with
  |some (.int _),some (.int k),some x'=>some (.YI k x')
  |some (.slice e),some .string,some x'=>(match P.underlying e,dL P e with | some (.int .u8),some 1=>some (.me .b2s [x']) | _,_=>none)
  |some .string,some (.slice e),some x'=>(match P.underlying e,dL P e with | some (.int .u8),some 1=>some (.me .s2b [x']) | _,_=>none)
  |some (.slice e),some (.slice _),some x'=>if s=d then(match P.underlying e with | some (.int .u8)=>some (.cvz x') | _=>none)else none
  |_,_,_=>none
 |.sliceToArrayPointer t x =>
  match P.underlying t,bT x with
  |some (.array n e),some x'=>(dL P e).map λw => .me (.s2a n w) [x']
  |_,_=>none
 |.makeFunc (.func f) xs ys=>match yh xs.toList,yh ys.toList with
  |some xs',some ys'=>some (.Zp f xs' ys')
  |_,_=>none
 |.makeSlice t x y =>
  match P.underlying t with
  |some (.slice e) =>
   match dL P e,(P.info? e).map (·.bytes),pN P e,bT x,bT y with
   |some w,some b,some z,some x',some y'=>if 0<w/\0<b then some (.mks w b z x' y')else none
   |_,_,_,_,_=>none
  |_=>none
 |.slice t x lo hi mx =>
  match P.underlying t,bT x,zX lo,zX hi,zX mx with
  |some (.slice e),some x',some lo',some hi',some mx'=>(dL P e).map λw => .W3 w x' lo' hi' mx'
  |some (.array n e),some x',some lo',some hi',some none=>(dL P e).map λw => .Tj n w x' lo' hi'
  |some .string,some x',some lo',some hi',some none=>some (.Is (.MH lo'.isSome hi'.isSome) (x'::(lo'.toList++hi'.toList)))
  |_,_,_,_,_=>none
 |.fieldAddr s x i =>
  match P.underlying s,bT x with
  |some (.struct fs),some x' =>
   match C6 P fs i with
   |some (off,sz)=>if 0<sz then some (.Mt off x')else none
   |none=>none
  |_,_=>none
 |.field s x i =>
  match P.underlying s,bT x with
  |some (.struct fs),some x' =>
   match fs[i]? with
   |some f=>match uS P f.type,dL P f.type with
    |some g,some sz=>if g || sz == 1 then some (.fld g f.offset sz x')else none
    |_,_=>none
   |none=>none
  |_,_=>none
 |.indexAddr t x i =>
  match P.underlying t,bT x,bT i with
  |some (.array n e),some x',some i'=>(dL P e).map λw => .My n w x' i'
  |some (.slice e),some x',some i'=>(dL P e).map λw => .IQ w x' i'
  |_,_,_=>none
 |.index t x i =>
  match P.underlying t,bT x,bT i with
  |some (.array n e),some x',some i'=>match uS P e,dL P e with
   |some g,some w=>if g || w == 1 then some (.OF g n w x' i')else none
   |_,_=>none
  |some .string,some x',some i'=>some (.Is .J8 [x',i'])
  |_,_,_=>none
 |.extract x i=>(bT x).map (.ext · i)
 |.call c =>
  match c.callee with
  |.value f=>match bT f,yh c.args.toList with
   |some f',some xs=>some (.call (a.kp.contains key) f' xs)
   |_,_=>none
  |.builtin .len =>
   match c.argTypes.toList,c.args.toList with
   |t::_,x::_=>match P.underlying t,bT x with
    |some (.slice _),some x'=>some (.MB x')
    |some .string,some x'=>some (.Is .RH [x'])
    |some (.map _ _),some x'=>some (.mp .len [x'])
    |some (.array n _),_=>some (.SU n)
    |some (.pointer r),_=>(match P.underlying r with | some (.array n _)=>some (.SU n) | _=>none)
    |_,_=>none
   |_,_=>none
  |.builtin .recover=>some .RX
  |.builtin .min=>match c.args.toList with
   |[x,y]=>(match bT x,bT y with | some x',some y'=>some (.mn x' y') | _,_=>none)
   |_=>none
  |.builtin .max=>match c.args.toList with
   |[x,y]=>(match bT x,bT y with | some x',some y'=>some (.mx x' y') | _,_=>none)
   |_=>none
  |.builtin .append =>
   match c.argTypes.toList,c.args.toList with
   |[t,u],[x,y]=>match P.underlying t,P.underlying u,bT x,bT y with
    |some (.slice e),some uu,some x',some y' =>
     if ZX uu=true then(match dL P e,(P.info? e).map (·.bytes),pN P e with
     |some w,some b,some z=>if 0<w/\0<b/\b<=2^20/\z.length=w then
       some (if Dq x && !(o.dst.any a.acj.contains)then .cpi w b y' else if a.kp.contains (1000000+key) && (aal x).isSome then .ape w b ((aal x).getD 0) y' else if a.kp.contains key then .apz w b x' y' else(match look key none a.sx with | some os => .VP os w b x' y' | none => .app w b x' y'))else none
     |_,_,_=>none)else none
    |_,_,_,_=>none
   |_,_=>none
  |_=>none
 |.makeInterface t x=>if P.concrete t=true then(bT x).map (.Zq t)else none
 |.typeAssert x _ t ok =>
  match P.underlying t,bT x with
  |some (.interface _),_=>none
  |some _,some x'=>if ok then(zvC P t).map λz => .tas t (some z) x' else some (.tas t none x')
  |_,_=>none
 |.panic x=>(bT x).map .ZE
 |.makeMap _ none=>some (.mp .make [])
 |.makeMap t (some (.const (.int _ _)))=>(match P.underlying t with | some (.map _ _)=>some (.mp .make []) | _=>none)
 |.range t x =>
  match P.underlying t,bT x with
  |some (.map _ _),some x'=>some (.mp .rng [x'])
  |_,_=>none
 |.entry x=>(match bT x with
  |some x'=>some (.mp .ent [x'])
  |none=>none)
 |.lookup t x i ok =>
  match P.underlying t,bT x,bT i with
  |some (.map kt et),some x',some i'=>(match LF P kt,zvC P et with
   |some ky,some z=>some (.mp (.get ky z ok) [x',i'])
   |_,_=>none)
  |_,_,_=>none
 |.mapUpdate t m x y =>
  match P.underlying t,bT m,bT x,bT y with
  |some (.map kt _),some m',some x',some y'=>(match LF P kt with
   |some ky=>some (.mp (.put ky) [m',x',y'])
   |none=>none)
  |_,_,_,_=>none
 |.insert t m x y =>
  match P.underlying t,bT m,bT x,bT y with
  |some (.map kt _),some m',some x',some y'=>(match LF P kt with
   |some ky=>some (.mp (.put ky) [m',x',y'])
   |none=>none)
  |_,_,_,_=>none
 |_=>none
def K.makes:K->Bool
 |.CV .. => true
 |.GD _=>true
 |_=>false
def K.ajO:K->Bool
 |.Je .. => true
 |_=>false
def Wr(P:Program)(a:sS)(n rM:Nat)(ops:Array Oper)(DZ:Bool)(i:Nat)(o:Oper):Option Op :=
 match kC P a ops (rM*1000+i) o with
 |some k =>
  match(match o.guard with
   |none=>some none
   |some (j,b)=>match(ops[j]?).bind (·.dst)with
    |some d=>some (some (d,b))
    |none=>none),(match o.dst with | some d=>decide (d<n) | none=>true)with
  |some g,true=>if(match o.dst with | some d => !(a.ed.contains d) || (k.makes && o.guard.isNone) | none => !k.makes) && (!k.ajO || o.dst.isNone)then some {dst:=o.dst,GJ:=g,DZ,k }else none
  |_,_=>none
 |none=>none
def OQ(P:Program)(a:sS)(n rM:Nat)(ops:Array Oper)(tail:Nat):Nat->List Oper->Option (List Op)
 |_,[]=>some []
 |i,o::r=>match Wr P a n rM ops (decide (i<tail) && !(a.kp.contains (rM*1000+i))) i o,OQ P a n rM ops tail (i+1) r with
  |some x,some xs=>some (x::xs)
  |_,_=>none
def Mo.calm:Mo->Bool
 |.get .. => true
 |.len=>true
 |.ent=>true
 |_=>false
def K.calm:K->Bool
 |.st .. => false
 |.RL .. => false
 |.app .. => false
 |.VP .. => false
 |.apz .. => false
 |.cvz _=>false
 |.LL _=>false
 |.Un .. => false
 |.Mr _=>false
 |.bxn .. => false
 |.YB .. => false
 |.mks .. => false
 |.CV nb _=>nb.isEmpty
 |.Je _ nb _ _ _=>nb.isEmpty
 |.mp o _=>o.calm
 |.ZE _=>false
 |.RX=>false
 |_=>true
def K.pure:K->Bool
 |.ld .. => false
 |.WX .. => false
 |.Tj .. => false
 |.cpi .. => false
 |.ape .. => false
 |.call .. => false
 |.mp .. => false
 |.me .. => false
 |k=>k.calm
def bU.tmps:bU->List Nat
 |.t n=>[n]
 |.c _=>[]
def K.tmps:K->List Nat
 |.mv x=>x.tmps
 |.LL _=>[]
 |.pick c a b=>c.tmps++a.tmps++b.tmps
 |.Un .. => []
 |.CV .. => []
 |.Mq x=>x.tmps
 |.Mr x=>x.tmps
 |.bxn _ x=>x.tmps
 |.GD x=>x.tmps
 |.WZ v _ _ a=>[v,a]
 |.Je v _ _ a x=>[v,a]++x.tmps
 |.Mp _ ps=>fM ps λp=>p.2.2.tmps
 |.bsi _ _ _ ps=>fM ps λp=>p.2.2.tmps
 |.YB _ _ _ ps=>fM ps λp=>p.2.2.tmps
 |.ld _ _ a=>a.tmps
 |.WY _ _ a=>a.tmps
 |.WX _ _ a=>a.tmps
 |.isn _ _ x=>x.tmps
 |.nck x=>x.tmps
 |.st _ _ a x=>a.tmps++x.tmps
 |.RL os _ a x=>a.tmps++x.tmps++os
 |.bin _ x y=>x.tmps++y.tmps
 |.eqv _ _ _ x y=>x.tmps++y.tmps
 |.un _ x=>x.tmps
 |.YI _ x=>x.tmps
 |.Zp _ xs ys=>fM xs bU.tmps++fM ys bU.tmps
 |.mks _ _ _ l c=>l.tmps++c.tmps
 |.W3 _ x lo hi m=>x.tmps++(lo.map bU.tmps).getD []++(hi.map bU.tmps).getD []++(m.map bU.tmps).getD []
 |.Tj _ _ x lo hi=>x.tmps++(lo.map bU.tmps).getD []++(hi.map bU.tmps).getD []
 |.Mt _ x=>x.tmps
 |.fld _ _ _ x=>x.tmps
 |.My _ _ x i=>x.tmps++i.tmps
 |.IQ _ x i=>x.tmps++i.tmps
 |.OF _ _ _ x i=>x.tmps++i.tmps
 |.MB x=>x.tmps
 |.SU _=>[]
 |.mn x y=>x.tmps++y.tmps
 |.mx x y=>x.tmps++y.tmps
 |.app _ _ s x=>s.tmps++x.tmps
 |.VP os _ _ s x=>s.tmps++x.tmps++os
 |.apz _ _ s x=>s.tmps++x.tmps
 |.cpi _ _ x=>x.tmps
 |.cvz x=>x.tmps
 |.bse=>[]
 |.ape _ _ v x=>v::x.tmps
 |.ext x _=>x.tmps
 |.Is _ xs=>fM xs bU.tmps
 |.mp _ xs=>fM xs bU.tmps
 |.me _ xs=>fM xs bU.tmps
 |.Zq _ x=>x.tmps
 |.tas _ _ x=>x.tmps
 |.isi _ x=>x.tmps
 |.ZE x=>x.tmps
 |.RX=>[]
 |.call _ f xs=>f.tmps++fM xs bU.tmps
def Op.Il(o:Op):List Nat:=(match o.GJ with | some (g,_)=>[g] | none=>[])++o.k.tmps
def ig:List Oper->List Nat->List Nat
 |[],acc=>acc
 |o::r,acc=>ig r (acc++[o.after.toList.foldl (λs e=>if Region.binds .any e then s ||| 2^e.on ||| acc.getD e.on 0 else s) 0])
def DC(bs:List Nat):Nat :=
 go bs.length
where
 go:Nat->Nat
  |0=>0
  |n+1=>if bs.getD n 0=2^n-1 then go n else n+1
def Op.defs(o:Op):List Nat:=o.dst.toList++(match o.k with | .Je v _ _ _ _=>[v] | _=>[])
def Op.adq(o p:Op):Bool :=
 o.defs.any (λd=>p.defs.contains d || p.Il.contains d) || o.Il.any (λd=>p.defs.contains d)
def Op.still(op:Op):Bool:=op.k.calm && op.DZ
def Op.far(o p:Op):Bool :=
 o.GJ.isNone && p.GJ.isNone &&
 match o.k,p.k with
 |.RL os _ _ _,.ld _ _ (.t m)=>os.contains m
 |.ld _ _ (.t m),.RL os _ _ _=>os.contains m
 |.RL os _ _ _,.RL _ _ (.t m) _=>os.contains m
 |.VP os _ _ _ _,.ld _ _ (.t m)=>os.contains m
 |.ld _ _ (.t _),.Un [] _=>true
 |.VP ..,.WX _ _ (.t _)=>true
 |_,_=>false
def Op.adr(o p:Op):Bool :=
 match o,p with
 |⟨none,none,_,.Je v [] _ a x⟩,⟨some d,none,_,.Mt _ (.t m)⟩=>decide (m=v/\d≠v/\d≠a/\d ∉ x.tmps)
 |_,_=>false
def Op.free(o p:Op):Bool:=o.adr p || (!(o.adq p) && (o.still && p.still || o.k.pure || p.k.pure || o.far p))
def K7(bs:List Nat):Nat->List Op->Bool
 |_,[]=>true
 |i,o::r=>after i (i+1) o r && K7 bs (i+1) r
where
 after (i:Nat):Nat->Op->List Op->Bool
  |_,_,[]=>true
  |j,o,p::r=>(o.free p || (bs.getD j 0).testBit i) && after i (j+1) o r
def Hf:Nat->List Oper->Bool
 |_,[]=>true
 |i,o::r=>(o.after.toList.all λe => !Region.binds .any e || decide (e.on<i)) && Hf (i+1) r
def Lb(live:List Nat):Option Nat->List Op->cb
 |some j,xs=>match xs.drop j with
  |x::r => .RQ live (xs.take j) x r
  |[] => .rM live xs
 |none,xs => .rM live xs
def Tb(P:Program)(a:sS)(n:Nat)(id:Nat)(ops:Array Oper)(draw:Bool):Option cb :=
  if draw then
   let bs:=ig ops.toList []
   let tail:=DC bs
   match OQ P a n id ops tail 0 ops.toList with
   |some xs=>if K7 bs 0 (xs.take tail) && Hf 0 ops.toList && xs.all (λx=>x.k != .RX)then some (Lb (look id [] a.live) ((look id none a.fy).filter λj=>decide (tail<=j)) xs)else none
   |none=>none
  else(OQ P a n id ops 0 0 ops.toList).map (Lb (look id [] a.live) (look id none a.fy))
def Bg(c:cb):List Nat->cb
 |[]=>c
 |vs => .seq (.cK vs) c
def Ez:cb:=.rM [] [⟨none,none,false,.isn false false (.c .undef)⟩]
def Ou:Code->Option (bU×List bU)
 |.region _ ops false =>
  match ops.toList with
  |[o]=>(match o.op,o.dst,o.guard with
   |.defer c,none,none=>(match c.callee with
    |.value f=>(match bT f,yh c.args.toList with
     |some f',some xs=>some (f',xs)
     |_,_=>none)
    |_=>none)
   |_,_,_=>none)
  |_=>none
 |_=>none
def VZ(P:Program)(a:sS)(n:Nat):Code->Option (cb×bU×List bU)
 |.region id ops false =>
  match ops.toList with
  |[m,o]=>(match o.op,o.dst,o.guard,m.dst with
   |.defer c,none,none,some t=>(match c.callee with
    |.value f=>(match Wr P a n id ops false 0 m,bT f,yh c.args.toList with
     |some op,some f',some xs=>if op.k=.RX then none else some (.rM (t::(fM xs bU.tmps++look id [] a.live)) [op],f',xs)
     |_,_,_=>none)
    |_=>none)
   |_,_,_,_=>none)
  |_=>none
 |_=>none
def SX(a:sS)(n:Nat):Code->Option (Nat×Nat×Nat)
 |.loop (.seq (.region _ ops false) _) =>
  match ops.toList with
  |[o,p]=>(match o.op,o.dst,o.guard,p.op,p.dst,p.guard with
   |.next (.tmp it) false,some nx,none,.extract (.tmp nx') 0,some ok,none =>
    if nx'=nx/\nx<n/\ok<n/\nx≠ok/\nx ∉ a.ed/\ok ∉ a.ed then some (it,nx,ok)else none
   |_,_,_,_,_,_=>none)
  |_=>none
 |_=>none
def abH(a:sS)(n id:Nat)(x:Code)(x':cb):cb :=
 match SX a n x,x' with
 |some (it,nx,ok),.loop live _ (.seq _ c) => .gX live (.t it) nx ok id c .Ko
 |_,x' => .dR id x'
def acM(a:sS):Code->Bool
 |.region id ops _=>a.bC.contains (1000000+id) && decide (2<ops.size)
 |_=>false
def Wz(P:Program)(a:sS)(n:Nat)(x:Code)(x' y':cb):cb :=
 match Ou x with
 |some (f,xs) => .VY f xs y'
 |none =>
  match VZ P a n x with
  |some (c,f,xs) => .seq c (.VY f xs y')
  |none =>
  match x,x' with
  |.seq _ (.block _ _),.seq p' (.gX live it nx ok b c .Ko) => .seq p' (.gX live it nx ok b c y')
  |_,_ => .seq x' (if acM a x then .sgm y' else y')
def L7(c:cb):cb:=match ie c with | some _=>Ez | none => .seq .Ko c
def cG(P:Program)(a:sS)(n:Nat)(dR:Nat):Code->Option cb
 |.skip=>some .Ko
 |.region id ops draw=>match Tb P a n id ops draw with
  |some c=>some (Bg c (look id [] a.fz))
  |none=>some Ez
 |.seq x y=>match cG P a n dR x,cG P a n dR y with
  |some x',some y'=>some (Wz P a n x x' y')
  |_,_=>none
 |.cond c x y=>match bT c,cG P a n dR x,cG P a n dR y with
  |some c',some x',some y'=>some (.ite c' x' y')
  |_,_,_=>none
 |.block id x=>(cG P a n id x).map (abH a n id x)
 |.loop x=>(cG P a n dR x).map (.loop (look dR [] a.adD) (a.bC.contains dR))
 |.rangeFunc f ps x y=>match bT f,cG P a n dR x,cG P a n dR y with
  |some f',some x',some y'=>if ps.toList.all (λt=>decide (t<n) && !(a.ed.contains t))then some (.ME (look dR [] a.adD) f' ps.toList x' y')else none
  |_,_,_=>none
 |.exit id=>some (.exit id)
 |.ret=>some .ret
 |.scope x=>(cG P a n dR x).map L7
 |.label _=>some .Ko
 |_=>some Ez
def acE(P:Program)(a:sS):ResultVar->Option G2
 |.tmp t=>some (.t t)
 |.cell x t=>match uS P t,dL P t with
  |some g,some s=>if(g || s == 1) && decide (0<s)then some (if a.ed.contains x then .v x g s else .c x g s)else none
  |_,_=>none
def JS(P:Program)(a:sS):List ResultVar->Option (List G2)
 |[]=>some []
 |r::rs=>match acE P a r,JS P a rs with
  |some x,some xs=>some (x::xs)
  |_,_=>none
def fnC(P:Program)(a:sS)(f:Func):Option Fn :=
 match f.body with
 |some c=>match cG P a f.ntmps 0 c,JS P a f.results.toList with
  |some c',some rs=>if f.params.size+f.nfree<=f.ntmps then some {S4:=f.params.size+f.nfree,res:=rs,body:=c' }else none
  |_,_=>none
 |none=>none
def Rd(w:World)(b o:Nat)(vs:List Value):Prop:=∀(j:Nat) x,vs[j]?=some x->w.cell? ⟨b,o+j,none⟩=some x
theorem Rd.take{w:World}{b o:Nat}{vs:List Value}(h:Rd w b o vs)(n:Nat):Rd w b o (vs.take n):=λj x e=>h j x (by
 rw[dw]at e;split at e<;>simp_all)
theorem Rd.drop{w:World}{b o:Nat}{vs:List Value}(h:Rd w b o vs)(n:Nat):Rd w b (o+n) (vs.drop n):=λj x e=>by
 have:=h (n+j) x (by rw[dN]at e;exact e);rw[show o+n+j=o+(n+j)from by omega];exact this
theorem add_eq(b o n:Nat):Addr.add ⟨b,o,none⟩ n=⟨b,o+n,none⟩:=by
 unfold Addr.add;split
 .subst_vars;rfl
 .rfl
section types
variable {P:Program} {t:TypeId}
theorem run_typeInfo{i:TypeInfo}(h:P.info? t=some i)(w:World):(typeInfo t).run P w=.ok i w:=by
 simp[typeInfo,h]
theorem run_sizeOf{s:Nat}(h:dL P t=some s)(w:World):(sizeOf t).run P w=.ok s w:=by
 simp only[dL,ad]at h;obtain⟨i,hi,rfl⟩:=h;simp[sizeOf,run_typeInfo hi]
theorem bJ{d:TypeDesc}(h:P.underlying t=some d)(w:World):(underlying t).run P w=.ok d w:=by
 simp[underlying,h]
theorem FC{b:Bool}(h:uS P t=some b)(w:World):(isAgg t).run P w=.ok b w:=by
 unfold uS at h;cases hu:P.underlying t with
 |none=>simp[hu]at h
 |some d =>
  rw[hu]at h;simp only[isAgg,Sem.run_bind,bJ hu,Result.andThen_ok];cases d<;>simp_all
theorem gv{z:Value}{i:TypeInfo}(h:P.info? t=some i)(hz:i.zero=some z)(w:World):(zeroValue t).run P w=.ok z w:=by
 simp[zeroValue,run_typeInfo h,hz]
end types
theorem RT(g:G){v:Value}{d:D}(h:ac7 v=some d):bW g d v/\v.oneCell'=true:=by
 unfold ac7 at h;split at h<;>first | (cases h;exact⟨by constructor,rfl⟩) | cases h
theorem K8(g:G){vs:List Value}{ds:List D}(h:IC vs=some ds):bS g ds vs/\∀x∈vs,x.oneCell'=true:=by
 induction vs generalizing ds with
 |nil=>simp only[IC,ae]at h;subst h;exact⟨.nil,by simp⟩
 |cons v vs ih =>
  simp only[IC]at h;split at h
  .rename_i d ds' h1 h2;cases h;obtain⟨h3,h4⟩:=ih h2;obtain⟨h5,h6⟩:=RT g h1;exact⟨.cons _ _ _ _ h5 h3,by simp only[bz];rintro x (rfl | hx);exact h6;exact h4 x hx⟩
  .cases h
theorem La(g:G){v:Value}{d:D}(h:Om v=some d):bW g d v:=by
 unfold Om at h;split at h
 .rename_i cs;simp only[ad]at h;obtain⟨ds,h1,rfl⟩:=h;obtain⟨h2,h3⟩:=K8 g h1;exact .agg ds cs h2 h3
 .exact(RT g h).1
theorem sQ{P:Program}{t:TypeId}(g:G){z:List D}(h:pN P t=some z):∃i v,P.info? t=some i/\i.zero=some v/\bS g z v.cells.toList/\∀x∈v.cells.toList,x.oneCell'=true:=by
 unfold pN at h;split at h
 .rename_i i hi;split at h
  .rename_i v hv;obtain⟨h2,h3⟩:=K8 g h;exact⟨i,v,hi,hv,h2,h3⟩
  .cases h
 .cases h
theorem E5{P:Program}{t:TypeId}{w:World}{b o sz:Nat}{ag:Bool}{vs:List Value}(hag:uS P t=some ag)(hsz:dL P t=some sz)(hone:(ag || sz == 1)=true)
  (hr:Rd w b o vs) (hlen:sz<=vs.length):
  ∃v,(loadVar t ⟨b,o,none⟩).run P w=.ok v w/\(if ag then v=.agg (vs.take sz).toArray else ∃x r,vs=x::r/\v=x):=by
 cases ag with
 |true =>
  have h1:(loadCells ⟨b,o,none⟩ sz).run P w=.ok (vs.take sz).toArray w:=by
   have:=run_loadCells_list (P:=P) w ⟨b,o,none⟩ (vs.take sz) (λj v e=>by rw[add_eq];exact hr.take sz j v e);rwa[dp,Nat.min_eq_left hlen]at this
  exact⟨_,by simp[loadVar,FC hag,run_sizeOf hsz,h1],rfl⟩
 |false =>
  simp only[Bool.false_or,beq_iff_eq]at hone;subst hone;cases vs with
  |nil=>simp at hlen
  |cons x r =>
   have:=hr 0 x rfl;exact⟨x,by simp only[Nat.add_zero]at this;simp[loadVar,FC hag,this],x,r,rfl,rfl⟩
theorem z6{P:Program}{b:Nat}{el:TypeId}:∀(ps:List Value) (w:World) (o i:Nat) (c:Array Value),(∀x∈ps,x.oneCell'=true) ->
  w.heap[b]?=some (.cells c el (0,0))->o+i+ps.length<=c.size ->
  ∃w' c',(storeCells ⟨b,o,none⟩ ps i).run P w=.ok () w'/\w'.heap[b]?=some (.cells c' el (0,0))/\c'.size=c.size /\
   (∀j,c'[j]?=if o+i<=j/\j<o+i+ps.length then ps[j-(o+i)]? else c[j]?) /\
   (∀x,x≠b->w'.heap[x]?=w.heap[x]?)/\w'.heap.size=w.heap.size/\w'.os=w.os/\w'.tape=w.tape/\w'.output=w.output
 |[],w,o,i,c,_,hb,_=>⟨w,c,by simp[storeCells],hb,rfl,λj=>by rw[if_neg (by simp only[bd];omega)],λ_ _=>rfl,rfl,rfl,rfl,rfl⟩
 |p::ps,w,o,i,c,h1,hb,hl=>by
  simp only[aB]at hl;have hp:=h1 p (by simp);have hcell:w.cell? ⟨b,o+i,none⟩=some (c[o+i]'(by omega)):=by
   simp only[World.cell?,hb];simp
  have hfz:w.frozen? ⟨b,o+i,none⟩=false:=by simp[World.frozen?,hb]
  have hb1:(w.setCell ⟨b,o+i,none⟩ p).heap[b]?=some (.cells (c.setIfInBounds (o+i) p) el (0,0)):=by
   simp[World.setCell,eI,hb]
  obtain⟨w',c',hrun,hb',hs,hc,ho,hsz,e1,e2,e3⟩:=z6 ps (w.setCell ⟨b,o+i,none⟩ p) o (i+1) (c.setIfInBounds (o+i) p) (λx hx=>h1 x (by simp[hx])) hb1 (by simp;omega);refine⟨w',c',?_,hb',by simpa using hs,?_,?_,by simpa using hsz,e1,e2,e3⟩
  .simp only[storeCells,Sem.run_bind,add_eq,run_store P w _ p .plain hp,hcell,hfz];simpa using hrun
  .intro j;rw[hc j];by_cases hj:j=o+i
   .subst hj;rw[if_neg (by omega),if_pos (by simp)];rw[Array.getElem?_setIfInBounds_self_of_lt (by omega)];simp
   .by_cases hj2:o+(i+1)<=j/\j<o+(i+1)+ps.length
    .rw[if_pos hj2,if_pos (by simp;omega)];rw[show j-(o+i)=(j-(o+(i+1)))+1 from by omega];simp
    .rw[if_neg hj2,if_neg (by simp;omega)];rw[Array.getElem?_setIfInBounds_ne (by omega)]
  .intro x hx;rw[ho x hx];simp only[World.setCell,eI];rw[if_neg (by simpa using λe=>hx e.symm)]
theorem Ia{P:Program}{t:TypeId}{w:World}{b o sz:Nat}{el:TypeId}{c:Array Value}{v:Value}(hsz:dL P t=some sz)(hv:v.cells.size=sz)
  (h1:∀x∈v.cells.toList,x.oneCell'=true) (hb:w.heap[b]?=some (.cells c el (0,0))) (hl:o+sz<=c.size):
  ∃w' c',(storeVar t ⟨b,o,none⟩ v).run P w=.ok () w'/\w'.heap[b]?=some (.cells c' el (0,0))/\c'.size=c.size /\
   (∀j,c'[j]?=if o<=j/\j<o+sz then v.cells.toList[j-o]? else c[j]?) /\
   (∀x,x≠b->w'.heap[x]?=w.heap[x]?)/\w'.heap.size=w.heap.size/\w'.os=w.os/\w'.tape=w.tape/\w'.output=w.output:=by
 obtain⟨w',c',hrun,rest⟩:=z6 (P:=P) (b:=b) (el:=el) v.cells.toList w o 0 c h1 hb (by simp[hv];omega);refine⟨w',c',?_,?_⟩
 .simp only[storeVar,Sem.run_bind,run_sizeOf hsz,Result.andThen_ok,hv];simpa using hrun
 .simpa[hv]using rest
