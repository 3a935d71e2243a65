import GoSem.Core.Program
import GoSem.Core.Layout
import Derived.Laws.Build
import Derived.Test.YtpapbbojmclkgaaGreatDoorBase1
set_option linter.all false
namespace Go.Abs
open Go
structure sS where
 live:List (Nat×List Nat)
 aa3:List (Nat×List Nat)
 bH:List Nat
 ZP:List Nat
 dT:List Nat
 nb:List (Nat×List (Nat×Nat))
 kp:List Nat
 fz:List (Nat×List Nat)
 nP:List Nat
 sx:List (Nat×Option (List Nat))
 ft:List (Nat×Option Nat):=[]
def look{α:Type}(n:Nat)(d:α):List (Nat×α)->α
 |[]=>d
 |(k,v)::r=>if k=n then v else look n d r
def aaD:Value->Option D
 |.bool b=>some (.bool b)
 |.int k n=>some (.int k n)
 |.string s=>some (.str s.data.toList)
 |.pointer none=>some .yM
 |.slice none 0 0=>some .aW
 |.nilFunc=>some .pC
 |.nilIface=>some .nQ
 |.map none=>some .undef
 |_=>none
def G5:List Value->Option (List D)
 |[]=>some []
 |v::vs=>match aaD v,G5 vs with
  |some d,some ds=>some (d::ds)
  |_,_=>none
def ME:Value->Option D
 |.agg cs=>(G5 cs.toList).map .agg
 |v=>aaD v
def bO:Operand->Option bP
 |.tmp t=>some (.t t)
 |.const v=>(ME v).map .c
 |.func f=>some (.c (.fn f [] []))
 |.global _=>none
def xa:List Operand->Option (List bP)
 |[]=>some []
 |x::xs=>match bO x,xa xs with
  |some y,some ys=>some (y::ys)
  |_,_=>none
def yO:Option Operand->Option (Option bP)
 |none=>some none
 |some x=>(bO x).map some
def dz(P:Program)(t:TypeId):Option Nat:=(P.info? t).map (·.size)
def uK(P:Program)(t:TypeId):Option Bool :=
 match P.underlying t with
 |some (.struct _) | some (.array _ _)=>some true
 |some _=>some false
 |none=>none
def pX(P:Program)(t:TypeId):Option (List D) :=
 match P.info? t with
 |some i=>match i.zero with
  |some z=>G5 z.cells.toList
  |none=>none
 |none=>none
def Cg:Operand->Bool
 |.const (.slice none 0 0)=>true
 |_=>false
def tT(place:Nat->Option (Nat×Nat)):List (Nat×Operand)->Option (List (Nat×Nat×bP))
 |[]=>some []
 |(i,x)::r=>match place i,bO x,tT place r with
  |some (o,s),some y,some r'=>some ((o,s,y)::r')
  |_,_,_=>none
def BT(P:Program)(fs:Array Field)(i:Nat):Option (Nat×Nat) :=
 match fs[i]? with
 |some f=>(dz P f.type).map λs=>(f.offset,s)
 |none=>none
def lq(P:Program):Nat->TypeId->Option (List (Option IntKind))
 |0,_=>none
 |d+1,t =>
  match P.underlying t with
  |some (.int k)=>some [some k]
  |some .bool=>some [none]
  |some (.struct fs)=>if P.stoodInHeld t then none else kindsF P (lq P d) 0 fs.toList
  |some (.array n e)=>match lq P d e with
   |some ks=>if dz P e == some ks.length && decide (0<ks.length)then some (fM (List.range n) λ_=>ks)else none
   |none=>none
  |_=>none
where
 kindsF (P:Program) (f:TypeId->Option (List (Option IntKind))) (o:Nat):List Field->Option (List (Option IntKind))
  |[]=>some []
  |x::r=>match f x.type with
   |some ks=>if x.name ≠ "_" /\ x.offset=o/\dz P x.type=some ks.length/\0<ks.length then(kindsF P f (o+ks.length) r).map (ks ++ ·)else none
   |none=>none
def zvC(P:Program)(t:TypeId):Option D :=
 match P.info? t with
 |some i=>match i.zero with
  |some z=>ME z
  |none=>none
 |none=>none
def J5(P:Program)(t:TypeId):Option Ky :=
 match P.underlying t with
 |some .string=>some none
 |some (.int k)=>some (some (false,[some k]))
 |some (.struct fs) =>
  if fs.toList.all (λf=>match P.underlying f.type with | some (.int _)=>true | some .bool=>true | _=>false)then
   (lq P 20 t).map λks=>some (true,ks)
  else none
 |_=>none
def eqC(P:Program)(b:BinOp)(t:TypeId)(x y:bP):Option K :=
 match lq P 20 t with
 |some ks=>if P.eqGuardType P.depth t then none else
  match b with
  |.eql=>(uK P t).map λag => .eqv ag ks false x y
  |.neq=>(uK P t).map λag => .eqv ag ks true x y
  |_=>none
 |none=>none
def Iq(ops:Array Oper):Nat->Nat->Nat
 |0,t=>t
 |n+1,t =>
  match ops.toList.find? (λo=>o.dst == some t)with
  |some o=>match o.op with
   |.fieldAddr _ (.tmp x) _=>Iq ops n x
   |.indexAddr _ (.tmp x) _=>Iq ops n x
   |_=>t
  |none=>t
def XX:Operand->Option Nat
 |.tmp t=>some t
 |_=>none
def X7(ps:Bool)(b:BinOp)(x:bP):Option K :=
 match b with
 |.eql=>some (.ZB ps false x)
 |.neq=>some (.ZB ps true x)
 |_=>none
def Xz:TypeDesc->Bool
 |.slice _=>true
 |.string=>true
 |_=>false
def kC(P:Program)(a:sS)(ops:Array Oper)(key:Nat)(o:Oper):Option K :=
 match o.op with
 |.move x=>(bO x).map .mv
 |.assign x =>
  match Cg x,P.underlying o.type,o.dst with
  |true,some (.slice e),some d=>if a.ZP.contains d then(dz P e).map .Kc else(bO x).map .mv
  |_,_,_=>(bO x).map .mv
 |.pick c x y=>match bO c,bO x,bO y with
  |some c',some x',some y'=>some (.pick c' x' y')
  |_,_,_=>none
 |.alloc e=>match pX P e,o.dst with
  |some z,some d=>if a.kp.contains (2000000+key)then(match P.underlying e with
    |some (.struct fs)=>(match fs.toList with
     |[_,f]=>(match P.underlying f.type,z with
      |some (.slice b),[.yM,.aW]=>some (.mp (.Ln e b) [])
      |_,_=>none)
     |_=>none)
    |_=>none)else some (if a.dT.contains d then .BJ (look key [] a.nb) z else .TB (look key [] a.nb) z)
  |_,_=>none
 |.box _ x=>match bO x,o.dst with
  |some x',some d=>some (if a.dT.contains d then .Fl x' else if a.ZP.contains d then(match look key [] a.nb with | [] => .KM x' | nb => .X4 nb x')else .KL x')
  |_,_=>none
 |.build t ps =>
  match P.underlying t,pX P t with
  |some (.struct fs),some z=>if fs.toList.all (λf=>(dz P f.type).isSome)then(tT (BT P fs) ps.toList).map (.Ln z)else none
  |some (.array _ e),some z=>match dz P e with
   |some w=>(tT (λi=>some (i*w,w)) ps.toList).map (.Ln z)
   |none=>none
  |_,_=>none
 |.buildSlice t n ps =>
  match P.underlying t with
  |some (.slice e) =>
   match dz P e,pX P e,o.dst with
   |some w,some z,some d =>
    if 0<w/\z.length=w/\n*w<=2^24 then
     (tT (λi=>some (i*w,w)) ps.toList).map λp =>
      let zs:=fM (List.range n) λ_=>z
      if n=0 && ps.isEmpty && a.kp.contains (1000000+key)then .bse else if a.ZP.contains d then .V5 n w zs p else .X3 n w zs p
    else none
   |_,_,_=>none
  |_=>none
 |.load t x=>match uK P t,dz P t,bO x with
  |some g,some s,some (.t n)=>if(g || s == 1) && decide (0<s)then some (if a.dT.contains (Iq ops 8 n)then .UL (Iq ops 8 n) g s n else if a.nP.contains (Iq ops 8 n)then .UK g s (.t n)else if a.kp.contains (3000000+key)then .UJ g s (.t n)else .ld g s (.t n))else none
  |_,_,_=>none
 |.store t x y=>match dz P t,bO x,bO y with
  |some s,some (.t n),some y'=>some (if a.dT.contains (Iq ops 8 n)then .HF (Iq ops 8 n) (look key [] a.nb) s n y' else(match look key none a.sx with | some os => .UA os s (.t n) y' | none => .st (look key [] a.nb) s (.t n) y'))
  |_,_,_=>none
 |.binOp b t x y _ =>
  match P.underlying t,bO x,bO y with
  |some (.int _),some x',some y'=>some (.bin b x' y')
  |some .bool,some x',some y'=>eqC P b t x' y'
  |some (.struct _),some x',some y'=>eqC P b t x' y'
  |some (.array _ _),some x',some y'=>eqC P b t x' y'
  |some .string,some x',some y'=>(match b with | .add=>some (.ID .Uu [x',y']) | .eql=>some (.ID (.seq false) [x',y']) | .neq=>some (.ID (.seq true) [x',y']) | _=>none)
  |some (.pointer _),some x',some (.c .yM)=>X7 true b x'
  |some (.pointer el),some x',some y'=>if(P.info? el).isSome then(match b with | .eql=>some (.me (.peq false) [x',y']) | .neq=>some (.me (.peq true) [x',y']) | _=>none)else none
  |some (.slice _),some x',some (.c .aW)=>X7 false b x'
  |some (.interface _),some x',some (.c .nQ)=>(match b,y with | .eql,.const .nilIface=>some (.ZA false x') | .neq,.const .nilIface=>some (.ZA true x') | _,_=>none)
  |_,_,_=>none
 |.nilCheck x=>(bO x).map .ZS
 |.unOp b _ x=>(bO x).map (.un b)
 |.convert s d x =>
  match P.underlying s,P.underlying d,bO x with
  |some (.int _),some (.int k),some x'=>some (.Wc k x')
  |some (.slice e),some .string,some x'=>(match P.underlying e,dz P e with | some (.int .u8),some 1=>some (.me .b2s [x']) | _,_=>none)
  |some .string,some (.slice e),some x'=>(match P.underlying e,dz P e with | some (.int .u8),some 1=>some (.me .s2b [x']) | _,_=>none)
  |some (.slice e),some (.slice _),some x'=>if s=d then(match P.underlying e with | some (.int .u8)=>some (.cvz x') | _=>none)else none
  |_,_,_=>none
 |.sliceToArrayPointer t x =>
  match P.underlying t,bO x with
  |some (.array n e),some x'=>(dz P e).map λw => .me (.s2a n w) [x']
  |_,_=>none
 |.makeFunc (.func f) xs ys=>match xa xs.toList,xa ys.toList with
  |some xs',some ys'=>some (.W4 f xs' ys')
  |_,_=>none
 |.makeSlice t x y =>
  match P.underlying t with
  |some (.slice e) =>
   match dz P e,(P.info? e).map (·.bytes),pX P e,bO x,bO y with
   |some w,some b,some z,some x',some y'=>if 0<w/\0<b then some (.X9 w b z x' y')else none
   |_,_,_,_,_=>none
  |_=>none
 |.slice t x lo hi mx =>
  match P.underlying t,bO x,yO lo,yO hi,yO mx with
  |some (.slice e),some x',some lo',some hi',some mx'=>(dz P e).map λw => .Yb w x' lo' hi' mx'
  |some (.array n e),some x',some lo',some hi',some none=>(dz P e).map λw => .Q5 n w x' lo' hi'
  |some .string,some x',some lo',some hi',some none=>some (.ID (.Nv lo'.isSome hi'.isSome) (x'::(lo'.toList++hi'.toList)))
  |_,_,_,_,_=>none
 |.fieldAddr s x i =>
  match P.underlying s,bO x with
  |some (.struct fs),some x' =>
   match BT P fs i with
   |some (off,sz)=>if 0<sz then some (.KO off x')else none
   |none=>none
  |_,_=>none
 |.field s x i =>
  match P.underlying s,bO x with
  |some (.struct fs),some x' =>
   match fs[i]? with
   |some f=>match uK P f.type,dz P f.type with
    |some g,some sz=>if g || sz == 1 then some (.fld g f.offset sz x')else none
    |_,_=>none
   |none=>none
  |_,_=>none
 |.indexAddr t x i =>
  match P.underlying t,bO x,bO i with
  |some (.array n e),some x',some i'=>(dz P e).map λw => .KR n w x' i'
  |some (.slice e),some x',some i'=>(dz P e).map λw => .Hk w x' i'
  |_,_,_=>none
 |.index t x i =>
  match P.underlying t,bO x,bO i with
  |some (.array n e),some x',some i'=>match uK P e,dz P e with
   |some g,some w=>if g || w == 1 then some (.MS g n w x' i')else none
   |_,_=>none
  |some .string,some x',some i'=>some (.ID .KZ [x',i'])
  |_,_,_=>none
 |.extract x i=>(bO x).map (.ext · i)
 |.call c =>
  match c.callee with
  |.value f=>match bO f,xa c.args.toList with
   |some f',some xs=>some (.call (a.kp.contains key) f' xs)
   |_,_=>none
  |.builtin .len =>
   match c.argTypes.toList,c.args.toList with
   |t::_,x::_=>match P.underlying t,bO x with
    |some (.slice _),some x'=>some (.KU x')
    |some .string,some x'=>some (.ID .PH [x'])
    |some (.map _ _),some x'=>some (.mp .len [x'])
    |some (.array n _),_=>some (.QK n)
    |some (.pointer r),_=>(match P.underlying r with | some (.array n _)=>some (.QK n) | _=>none)
    |_,_=>none
   |_,_=>none
  |.builtin .recover=>some .PX
  |.builtin .min=>match c.args.toList with
   |[x,y]=>(match bO x,bO y with | some x',some y'=>some (.mn x' y') | _,_=>none)
   |_=>none
  |.builtin .max=>match c.args.toList with
   |[x,y]=>(match bO x,bO y with | some x',some y'=>some (.mx x' y') | _,_=>none)
   |_=>none
  |.builtin .append =>
   match c.argTypes.toList,c.args.toList with
   |[t,u],[x,y]=>match P.underlying t,P.underlying u,bO x,bO y with
    |some (.slice e),some uu,some x',some y' =>
     if Xz uu=true then(match dz P e,(P.info? e).map (·.bytes),pX P e with
     |some w,some b,some z=>if 0<w/\0<b/\b<=2^20/\z.length=w then
       some (if Cg x && !(o.dst.any a.ZP.contains)then .X5 w b y' else if a.kp.contains (1000000+key) && (XX x).isSome then .ape w b ((XX x).getD 0) y' else if a.kp.contains key then .apz w b x' y' else(match look key none a.sx with | some os => .TD os w b x' y' | none => .app w b x' y'))else none
     |_,_,_=>none)else none
    |_,_,_,_=>none
   |_,_=>none
  |_=>none
 |.makeInterface t x=>if P.concrete t=true then(bO x).map (.W5 t)else none
 |.typeAssert x _ t ok =>
  match P.underlying t,bO x with
  |some (.interface _),_=>none
  |some _,some x'=>if ok then(zvC P t).map λz => .Yd t (some z) x' else some (.Yd t none x')
  |_,_=>none
 |.panic x=>(bO x).map .Xh
 |.makeMap _ none=>some (.mp .make [])
 |.makeMap t (some (.const (.int _ _)))=>(match P.underlying t with | some (.map _ _)=>some (.mp .make []) | _=>none)
 |.range t x =>
  match P.underlying t,bO x with
  |some (.map _ _),some x'=>some (.mp .rng [x'])
  |_,_=>none
 |.entry x=>(match bO x with
  |some x'=>some (.mp .ent [x'])
  |none=>none)
 |.lookup t x i ok =>
  match P.underlying t,bO x,bO i with
  |some (.map kt et),some x',some i'=>(match J5 P kt,zvC P et with
   |some ky,some z=>some (.mp (.get ky z ok) [x',i'])
   |_,_=>none)
  |_,_,_=>none
 |.mapUpdate t m x y =>
  match P.underlying t,bO m,bO x,bO y with
  |some (.map kt _),some m',some x',some y'=>(match J5 P kt with
   |some ky=>some (.mp (.put ky) [m',x',y'])
   |none=>none)
  |_,_,_,_=>none
 |.insert t m x y =>
  match P.underlying t,bO m,bO x,bO y with
  |some (.map kt _),some m',some x',some y'=>(match J5 P kt with
   |some ky=>some (.mp (.put ky) [m',x',y'])
   |none=>none)
  |_,_,_,_=>none
 |_=>none
def K.makes:K->Bool
 |.BJ .. => true
 |.Fl _=>true
 |_=>false
def K.ahb:K->Bool
 |.HF .. => true
 |_=>false
def Un(P:Program)(a:sS)(n rM:Nat)(ops:Array Oper)(CP:Bool)(i:Nat)(o:Oper):Option Op :=
 match kC P a ops (rM*1000+i) o with
 |some k =>
  match(match o.guard with
   |none=>some none
   |some (j,b)=>match(ops[j]?).bind (·.dst)with
    |some d=>some (some (d,b))
    |none=>none),(match o.dst with | some d=>decide (d<n) | none=>true)with
  |some g,true=>if(match o.dst with | some d => !(a.dT.contains d) || (k.makes && o.guard.isNone) | none => !k.makes) && (!k.ahb || o.dst.isNone)then some {dst:=o.dst,Ft:=g,CP,k }else none
  |_,_=>none
 |none=>none
def M4(P:Program)(a:sS)(n rM:Nat)(ops:Array Oper)(tail:Nat):Nat->List Oper->Option (List Op)
 |_,[]=>some []
 |i,o::r=>match Un P a n rM ops (decide (i<tail) && !(a.kp.contains (rM*1000+i))) i o,M4 P a n rM ops tail (i+1) r with
  |some x,some xs=>some (x::xs)
  |_,_=>none
def Mo.calm:Mo->Bool
 |.get .. => true
 |.len=>true
 |.ent=>true
 |_=>false
def K.calm:K->Bool
 |.st .. => false
 |.UA .. => false
 |.app .. => false
 |.TD .. => false
 |.apz .. => false
 |.cvz _=>false
 |.Kc _=>false
 |.TB .. => false
 |.KM _=>false
 |.X4 .. => false
 |.V5 .. => false
 |.X9 .. => false
 |.BJ nb _=>nb.isEmpty
 |.HF _ nb _ _ _=>nb.isEmpty
 |.mp o _=>o.calm
 |.Xh _=>false
 |.PX=>false
 |_=>true
def K.pure:K->Bool
 |.ld .. => false
 |.UJ .. => false
 |.Q5 .. => false
 |.X5 .. => false
 |.ape .. => false
 |.call .. => false
 |.mp .. => false
 |.me .. => false
 |k=>k.calm
def bP.tmps:bP->List Nat
 |.t n=>[n]
 |.c _=>[]
def K.tmps:K->List Nat
 |.mv x=>x.tmps
 |.Kc _=>[]
 |.pick c a b=>c.tmps++a.tmps++b.tmps
 |.TB .. => []
 |.BJ .. => []
 |.KL x=>x.tmps
 |.KM x=>x.tmps
 |.X4 _ x=>x.tmps
 |.Fl x=>x.tmps
 |.UL v _ _ a=>[v,a]
 |.HF v _ _ a x=>[v,a]++x.tmps
 |.Ln _ ps=>fM ps λp=>p.2.2.tmps
 |.X3 _ _ _ ps=>fM ps λp=>p.2.2.tmps
 |.V5 _ _ _ ps=>fM ps λp=>p.2.2.tmps
 |.ld _ _ a=>a.tmps
 |.UK _ _ a=>a.tmps
 |.UJ _ _ a=>a.tmps
 |.ZB _ _ x=>x.tmps
 |.ZS x=>x.tmps
 |.st _ _ a x=>a.tmps++x.tmps
 |.UA os _ a x=>a.tmps++x.tmps++os
 |.bin _ x y=>x.tmps++y.tmps
 |.eqv _ _ _ x y=>x.tmps++y.tmps
 |.un _ x=>x.tmps
 |.Wc _ x=>x.tmps
 |.W4 _ xs ys=>fM xs bP.tmps++fM ys bP.tmps
 |.X9 _ _ _ l c=>l.tmps++c.tmps
 |.Yb _ x lo hi m=>x.tmps++(lo.map bP.tmps).getD []++(hi.map bP.tmps).getD []++(m.map bP.tmps).getD []
 |.Q5 _ _ x lo hi=>x.tmps++(lo.map bP.tmps).getD []++(hi.map bP.tmps).getD []
 |.KO _ x=>x.tmps
 |.fld _ _ _ x=>x.tmps
 |.KR _ _ x i=>x.tmps++i.tmps
 |.Hk _ x i=>x.tmps++i.tmps
 |.MS _ _ _ x i=>x.tmps++i.tmps
 |.KU x=>x.tmps
 |.QK _=>[]
 |.mn x y=>x.tmps++y.tmps
 |.mx x y=>x.tmps++y.tmps
 |.app _ _ s x=>s.tmps++x.tmps
 |.TD os _ _ s x=>s.tmps++x.tmps++os
 |.apz _ _ s x=>s.tmps++x.tmps
 |.X5 _ _ x=>x.tmps
 |.cvz x=>x.tmps
 |.bse=>[]
 |.ape _ _ v x=>v::x.tmps
 |.ext x _=>x.tmps
 |.ID _ xs=>fM xs bP.tmps
 |.mp _ xs=>fM xs bP.tmps
 |.me _ xs=>fM xs bP.tmps
 |.W5 _ x=>x.tmps
 |.Yd _ _ x=>x.tmps
 |.ZA _ x=>x.tmps
 |.Xh x=>x.tmps
 |.PX=>[]
 |.call _ f xs=>f.tmps++fM xs bP.tmps
def Op.GR(o:Op):List Nat:=(match o.Ft with | some (g,_)=>[g] | none=>[])++o.k.tmps
def iC:List Oper->List Nat->List Nat
 |[],acc=>acc
 |o::r,acc=>iC r (acc++[o.after.toList.foldl (λs e=>if Region.binds .any e then s ||| 2^e.on ||| acc.getD e.on 0 else s) 0])
def Ct(bs:List Nat):Nat :=
 go bs.length
where
 go:Nat->Nat
  |0=>0
  |n+1=>if bs.getD n 0=2^n-1 then go n else n+1
def Op.defs(o:Op):List Nat:=o.dst.toList++(match o.k with | .HF v _ _ _ _=>[v] | _=>[])
def Op.aaR(o p:Op):Bool :=
 o.defs.any (λd=>p.defs.contains d || p.GR.contains d) || o.GR.any (λd=>p.defs.contains d)
def Op.still(op:Op):Bool:=op.k.calm && op.CP
def Op.far(o p:Op):Bool :=
 o.Ft.isNone && p.Ft.isNone &&
 match o.k,p.k with
 |.UA os _ _ _,.ld _ _ (.t m)=>os.contains m
 |.ld _ _ (.t m),.UA os _ _ _=>os.contains m
 |.UA os _ _ _,.UA _ _ (.t m) _=>os.contains m
 |.TD os _ _ _ _,.ld _ _ (.t m)=>os.contains m
 |.ld _ _ (.t _),.TB [] _=>true
 |.TD ..,.UJ _ _ (.t _)=>true
 |_,_=>false
def Op.adr(o p:Op):Bool :=
 match o,p with
 |⟨none,none,_,.HF v [] _ a x⟩,⟨some d,none,_,.KO _ (.t m)⟩=>decide (m=v/\d≠v/\d≠a/\d ∉ x.tmps)
 |_,_=>false
def Op.free(o p:Op):Bool:=o.adr p || (!(o.aaR p) && (o.still && p.still || o.k.pure || p.k.pure || o.far p))
def Jy(bs:List Nat):Nat->List Op->Bool
 |_,[]=>true
 |i,o::r=>after i (i+1) o r && Jy bs (i+1) r
where
 after (i:Nat):Nat->Op->List Op->Bool
  |_,_,[]=>true
  |j,o,p::r=>(o.free p || (bs.getD j 0).testBit i) && after i (j+1) o r
def FW:Nat->List Oper->Bool
 |_,[]=>true
 |i,o::r=>(o.after.toList.all λe => !Region.binds .any e || decide (e.on<i)) && FW (i+1) r
def JC(live:List Nat):Option Nat->List Op->cb
 |some j,xs=>match xs.drop j with
  |x::r => .PQ live (xs.take j) x r
  |[] => .rM live xs
 |none,xs => .rM live xs
def QY(P:Program)(a:sS)(n:Nat)(id:Nat)(ops:Array Oper)(draw:Bool):Option cb :=
  if draw then
   let bs:=iC ops.toList []
   let tail:=Ct bs
   match M4 P a n id ops tail 0 ops.toList with
   |some xs=>if Jy bs 0 (xs.take tail) && FW 0 ops.toList && xs.all (λx=>x.k != .PX)then some (JC (look id [] a.live) ((look id none a.ft).filter λj=>decide (tail<=j)) xs)else none
   |none=>none
  else(M4 P a n id ops 0 0 ops.toList).map (JC (look id [] a.live) (look id none a.ft))
def zY(c:cb):List Nat->cb
 |[]=>c
 |vs => .seq (.cG vs) c
def Dl:cb:=.rM [] [⟨none,none,false,.ZB false false (.c .undef)⟩]
def MJ:Code->Option (bP×List bP)
 |.region _ ops false =>
  match ops.toList with
  |[o]=>(match o.op,o.dst,o.guard with
   |.defer c,none,none=>(match c.callee with
    |.value f=>(match bO f,xa c.args.toList with
     |some f',some xs=>some (f',xs)
     |_,_=>none)
    |_=>none)
   |_,_,_=>none)
  |_=>none
 |_=>none
def TO(P:Program)(a:sS)(n:Nat):Code->Option (cb×bP×List bP)
 |.region id ops false =>
  match ops.toList with
  |[m,o]=>(match o.op,o.dst,o.guard,m.dst with
   |.defer c,none,none,some t=>(match c.callee with
    |.value f=>(match Un P a n id ops false 0 m,bO f,xa c.args.toList with
     |some op,some f',some xs=>if op.k=.PX then none else some (.rM (t::(fM xs bP.tmps++look id [] a.live)) [op],f',xs)
     |_,_,_=>none)
    |_=>none)
   |_,_,_,_=>none)
  |_=>none
 |_=>none
def QN(a:sS)(n:Nat):Code->Option (Nat×Nat×Nat)
 |.loop (.seq (.region _ ops false) _) =>
  match ops.toList with
  |[o,p]=>(match o.op,o.dst,o.guard,p.op,p.dst,p.guard with
   |.next (.tmp it) false,some nx,none,.extract (.tmp nx') 0,some ok,none =>
    if nx'=nx/\nx<n/\ok<n/\nx≠ok/\nx ∉ a.dT/\ok ∉ a.dT then some (it,nx,ok)else none
   |_,_,_,_,_,_=>none)
  |_=>none
 |_=>none
def Zf(a:sS)(n id:Nat)(x:Code)(x':cb):cb :=
 match QN a n x,x' with
 |some (it,nx,ok),.loop live _ (.seq _ c) => .iq live (.t it) nx ok id c .IX
 |_,x' => .dC id x'
def aai(a:sS):Code->Bool
 |.region id ops _=>a.bH.contains (1000000+id) && decide (2<ops.size)
 |_=>false
def Uv(P:Program)(a:sS)(n:Nat)(x:Code)(x' y':cb):cb :=
 match MJ x with
 |some (f,xs) => .TN f xs y'
 |none =>
  match TO P a n x with
  |some (c,f,xs) => .seq c (.TN f xs y')
  |none =>
  match x,x' with
  |.seq _ (.block _ _),.seq p' (.iq live it nx ok b c .IX) => .seq p' (.iq live it nx ok b c y')
  |_,_ => .seq x' (if aai a x then .sgm y' else y')
def Ku(c:cb):cb:=match iB c with | some _=>Dl | none => .seq .IX c
def cn(P:Program)(a:sS)(n:Nat)(dC:Nat):Code->Option cb
 |.skip=>some .IX
 |.region id ops draw=>match QY P a n id ops draw with
  |some c=>some (zY c (look id [] a.fz))
  |none=>some Dl
 |.seq x y=>match cn P a n dC x,cn P a n dC y with
  |some x',some y'=>some (Uv P a n x x' y')
  |_,_=>none
 |.cond c x y=>match bO c,cn P a n dC x,cn P a n dC y with
  |some c',some x',some y'=>some (.ite c' x' y')
  |_,_,_=>none
 |.block id x=>(cn P a n id x).map (Zf a n id x)
 |.loop x=>(cn P a n dC x).map (.loop (look dC [] a.aa3) (a.bH.contains dC))
 |.rangeFunc f ps x y=>match bO f,cn P a n dC x,cn P a n dC y with
  |some f',some x',some y'=>if ps.toList.all (λt=>decide (t<n) && !(a.dT.contains t))then some (.Nj (look dC [] a.aa3) f' ps.toList x' y')else none
  |_,_,_=>none
 |.exit id=>some (.exit id)
 |.ret=>some .ret
 |.scope x=>(cn P a n dC x).map Ku
 |.label _=>some .IX
 |_=>some Dl
def Z9(P:Program)(a:sS):ResultVar->Option FO
 |.tmp t=>some (.t t)
 |.cell x t=>match uK P t,dz P t with
  |some g,some s=>if(g || s == 1) && decide (0<s)then some (if a.dT.contains x then .v x g s else .c x g s)else none
  |_,_=>none
def Ip(P:Program)(a:sS):List ResultVar->Option (List FO)
 |[]=>some []
 |r::rs=>match Z9 P a r,Ip P a rs with
  |some x,some xs=>some (x::xs)
  |_,_=>none
def fnC(P:Program)(a:sS)(f:Func):Option Fn :=
 match f.body with
 |some c=>match cn P a f.ntmps 0 c,Ip P a f.results.toList with
  |some c',some rs=>if f.params.size+f.nfree<=f.ntmps then some {QS:=f.params.size+f.nfree,res:=rs,body:=c' }else none
  |_,_=>none
 |none=>none
def Rd(w:World)(b o:Nat)(vs:List Value):Prop:=∀(j:Nat) x,vs[j]?=some x->w.cell? ⟨b,o+j,none⟩=some x
theorem Rd.take{w:World}{b o:Nat}{vs:List Value}(h:Rd w b o vs)(n:Nat):Rd w b o (vs.take n):=λj x e=>h j x (by
 rw[c9]at e;split at e<;>simp_all)
theorem Rd.drop{w:World}{b o:Nat}{vs:List Value}(h:Rd w b o vs)(n:Nat):Rd w b (o+n) (vs.drop n):=λj x e=>by
 have:=h (n+j) x (by rw[dZ]at e;exact e);rw[show o+n+j=o+(n+j)from by omega];exact this
theorem add_eq(b o n:Nat):Addr.add ⟨b,o,none⟩ n=⟨b,o+n,none⟩:=by
 unfold Addr.add;split
 .subst_vars;rfl
 .rfl
section types
variable {P:Program} {t:TypeId}
theorem run_typeInfo{i:TypeInfo}(h:P.info? t=some i)(w:World):(typeInfo t).run P w=.ok i w:=by
 simp[typeInfo,h]
theorem run_sizeOf{s:Nat}(h:dz P t=some s)(w:World):(sizeOf t).run P w=.ok s w:=by
 simp only[dz,ad]at h;obtain⟨i,hi,rfl⟩:=h;simp[sizeOf,run_typeInfo hi]
theorem bC{d:TypeDesc}(h:P.underlying t=some d)(w:World):(underlying t).run P w=.ok d w:=by
 simp[underlying,h]
theorem Ei{b:Bool}(h:uK P t=some b)(w:World):(isAgg t).run P w=.ok b w:=by
 unfold uK at h;cases hu:P.underlying t with
 |none=>simp[hu]at h
 |some d =>
  rw[hu]at h;simp only[isAgg,Sem.run_bind,bC hu,Result.andThen_ok];cases d<;>simp_all
theorem gB{z:Value}{i:TypeInfo}(h:P.info? t=some i)(hz:i.zero=some z)(w:World):(zeroValue t).run P w=.ok z w:=by
 simp[zeroValue,run_typeInfo h,hz]
end types
theorem PS(g:G){v:Value}{d:D}(h:aaD v=some d):bQ g d v/\v.oneCell'=true:=by
 unfold aaD at h;split at h<;>first | (cases h;exact⟨by constructor,rfl⟩) | cases h
theorem Jz(g:G){vs:List Value}{ds:List D}(h:G5 vs=some ds):bN g ds vs/\∀x∈vs,x.oneCell'=true:=by
 induction vs generalizing ds with
 |nil=>simp only[G5,ae]at h;subst h;exact⟨.nil,by simp⟩
 |cons v vs ih =>
  simp only[G5]at h;split at h
  .rename_i d ds' h1 h2;cases h;obtain⟨h3,h4⟩:=ih h2;obtain⟨h5,h6⟩:=PS g h1;exact⟨.cons _ _ _ _ h5 h3,by simp only[bj];rintro x (rfl | hx);exact h6;exact h4 x hx⟩
  .cases h
theorem JB(g:G){v:Value}{d:D}(h:ME v=some d):bQ g d v:=by
 unfold ME at h;split at h
 .rename_i cs;simp only[ad]at h;obtain⟨ds,h1,rfl⟩:=h;obtain⟨h2,h3⟩:=Jz g h1;exact .agg ds cs h2 h3
 .exact(PS g h).1
theorem sO{P:Program}{t:TypeId}(g:G){z:List D}(h:pX P t=some z):∃i v,P.info? t=some i/\i.zero=some v/\bN g z v.cells.toList/\∀x∈v.cells.toList,x.oneCell'=true:=by
 unfold pX at h;split at h
 .rename_i i hi;split at h
  .rename_i v hv;obtain⟨h2,h3⟩:=Jz g h;exact⟨i,v,hi,hv,h2,h3⟩
  .cases h
 .cases h
theorem DR{P:Program}{t:TypeId}{w:World}{b o sz:Nat}{ag:Bool}{vs:List Value}(hag:uK P t=some ag)(hsz:dz P t=some sz)(hone:(ag || sz == 1)=true)
  (hr:Rd w b o vs) (hlen:sz<=vs.length):
  ∃v,(loadVar t ⟨b,o,none⟩).run P w=.ok v w/\(if ag then v=.agg (vs.take sz).toArray else ∃x r,vs=x::r/\v=x):=by
 cases ag with
 |true =>
  have h1:(loadCells ⟨b,o,none⟩ sz).run P w=.ok (vs.take sz).toArray w:=by
   have:=run_loadCells_list (P:=P) w ⟨b,o,none⟩ (vs.take sz) (λj v e=>by rw[add_eq];exact hr.take sz j v e);rwa[dp,Nat.min_eq_left hlen]at this
  exact⟨_,by simp[loadVar,Ei hag,run_sizeOf hsz,h1],rfl⟩
 |false =>
  simp only[Bool.false_or,beq_iff_eq]at hone;subst hone;cases vs with
  |nil=>simp at hlen
  |cons x r =>
   have:=hr 0 x rfl;exact⟨x,by simp only[Nat.add_zero]at this;simp[loadVar,Ei hag,this],x,r,rfl,rfl⟩
theorem yS{P:Program}{b:Nat}{el:TypeId}:∀(ps:List Value) (w:World) (o i:Nat) (c:Array Value),(∀x∈ps,x.oneCell'=true) ->
  w.heap[b]?=some (.cells c el (0,0))->o+i+ps.length<=c.size ->
  ∃w' c',(storeCells ⟨b,o,none⟩ ps i).run P w=.ok () w'/\w'.heap[b]?=some (.cells c' el (0,0))/\c'.size=c.size /\
   (∀j,c'[j]?=if o+i<=j/\j<o+i+ps.length then ps[j-(o+i)]? else c[j]?) /\
   (∀x,x≠b->w'.heap[x]?=w.heap[x]?)/\w'.heap.size=w.heap.size/\w'.os=w.os/\w'.tape=w.tape/\w'.output=w.output
 |[],w,o,i,c,_,hb,_=>⟨w,c,by simp[storeCells],hb,rfl,λj=>by rw[if_neg (by simp only[bx];omega)],λ_ _=>rfl,rfl,rfl,rfl,rfl⟩
 |p::ps,w,o,i,c,h1,hb,hl=>by
  simp only[aK]at hl;have hp:=h1 p (by simp);have hcell:w.cell? ⟨b,o+i,none⟩=some (c[o+i]'(by omega)):=by
   simp only[World.cell?,hb];simp
  have hfz:w.frozen? ⟨b,o+i,none⟩=false:=by simp[World.frozen?,hb]
  have hb1:(w.setCell ⟨b,o+i,none⟩ p).heap[b]?=some (.cells (c.setIfInBounds (o+i) p) el (0,0)):=by
   simp[World.setCell,eu,hb]
  obtain⟨w',c',hrun,hb',hs,hc,ho,hsz,e1,e2,e3⟩:=yS ps (w.setCell ⟨b,o+i,none⟩ p) o (i+1) (c.setIfInBounds (o+i) p) (λx hx=>h1 x (by simp[hx])) hb1 (by simp;omega);refine⟨w',c',?_,hb',by simpa using hs,?_,?_,by simpa using hsz,e1,e2,e3⟩
  .simp only[storeCells,Sem.run_bind,add_eq,run_store P w _ p .plain hp,hcell,hfz];simpa using hrun
  .intro j;rw[hc j];by_cases hj:j=o+i
   .subst hj;rw[if_neg (by omega),if_pos (by simp)];rw[Array.getElem?_setIfInBounds_self_of_lt (by omega)];simp
   .by_cases hj2:o+(i+1)<=j/\j<o+(i+1)+ps.length
    .rw[if_pos hj2,if_pos (by simp;omega)];rw[show j-(o+i)=(j-(o+(i+1)))+1 from by omega];simp
    .rw[if_neg hj2,if_neg (by simp;omega)];rw[Array.getElem?_setIfInBounds_ne (by omega)]
  .intro x hx;rw[ho x hx];simp only[World.setCell,eu];rw[if_neg (by simpa using λe=>hx e.symm)]
theorem GM{P:Program}{t:TypeId}{w:World}{b o sz:Nat}{el:TypeId}{c:Array Value}{v:Value}(hsz:dz P t=some sz)(hv:v.cells.size=sz)
  (h1:∀x∈v.cells.toList,x.oneCell'=true) (hb:w.heap[b]?=some (.cells c el (0,0))) (hl:o+sz<=c.size):
  ∃w' c',(storeVar t ⟨b,o,none⟩ v).run P w=.ok () w'/\w'.heap[b]?=some (.cells c' el (0,0))/\c'.size=c.size /\
   (∀j,c'[j]?=if o<=j/\j<o+sz then v.cells.toList[j-o]? else c[j]?) /\
   (∀x,x≠b->w'.heap[x]?=w.heap[x]?)/\w'.heap.size=w.heap.size/\w'.os=w.os/\w'.tape=w.tape/\w'.output=w.output:=by
 obtain⟨w',c',hrun,rest⟩:=yS (P:=P) (b:=b) (el:=el) v.cells.toList w o 0 c h1 hb (by simp[hv];omega);refine⟨w',c',?_,?_⟩
 .simp only[storeVar,Sem.run_bind,run_sizeOf hsz,Result.andThen_ok,hv];simpa using hrun
 .simpa[hv]using rest
end Go.Abs
