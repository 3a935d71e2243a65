import GoSem.Core.Program
import GoSem.Core.Layout
import Derived.Laws.Build
import Derived.Test.YtpapbbojmclkgaaGreatDoorBase1
set_option linter.all false
namespace Go.Abs
open Go
structure tx where
 live:List (Nat×List Nat)
 abP:List (Nat×List Nat)
 bF:List Nat
 aaw:List Nat
 dU:List Nat
 nb:List (Nat×List (Nat×Nat))
 kp:List Nat
 fz:List (Nat×List Nat)
 oc:List Nat
 sx:List (Nat×Option (List Nat))
 fu:List (Nat×Option Nat):=[]
def look{α:Type}(n:Nat)(d:α):List (Nat×α)->α
 |[]=>d
 |(k,v)::r=>if k=n then v else look n d r
def abk:Value->Option D
 |.bool b=>some (.bool b)
 |.int k n=>some (.int k n)
 |.string s=>some (.str s.data.toList)
 |.pointer none=>some .zg
 |.slice none 0 0=>some .bz
 |.nilFunc=>some .pR
 |.nilIface=>some .nK
 |.map none=>some .undef
 |_=>none
def Ht:List Value->Option (List D)
 |[]=>some []
 |v::vs=>match abk v,Ht vs with
  |some d,some ds=>some (d::ds)
  |_,_=>none
def Na:Value->Option D
 |.agg cs=>(Ht cs.toList).map .agg
 |v=>abk v
def bO:Operand->Option bP
 |.tmp t=>some (.t t)
 |.const v=>(Na v).map .c
 |.func f=>some (.c (.fn f [] []))
 |.global _=>none
def xA:List Operand->Option (List bP)
 |[]=>some []
 |x::xs=>match bO x,xA xs with
  |some y,some ys=>some (y::ys)
  |_,_=>none
def zi:Option Operand->Option (Option bP)
 |none=>some none
 |some x=>(bO x).map some
def dE(P:Program)(t:TypeId):Option Nat:=(P.info? t).map (·.size)
def u0(P:Program)(t:TypeId):Option Bool :=
 match P.underlying t with
 |some (.struct _) | some (.array _ _)=>some true
 |some _=>some false
 |none=>none
def qX(P:Program)(t:TypeId):Option (List D) :=
 match P.info? t with
 |some i=>match i.zero with
  |some z=>Ht z.cells.toList
  |none=>none
 |none=>none
def CB:Operand->Bool
 |.const (.slice none 0 0)=>true
 |_=>false
def um(place:Nat->Option (Nat×Nat)):List (Nat×Operand)->Option (List (Nat×Nat×bP))
 |[]=>some []
 |(i,x)::r=>match place i,bO x,um place r with
  |some (o,s),some y,some r'=>some ((o,s,y)::r')
  |_,_,_=>none
def Ch(P:Program)(fs:Array Field)(i:Nat):Option (Nat×Nat) :=
 match fs[i]? with
 |some f=>(dE P f.type).map λs=>(f.offset,s)
 |none=>none
def lN(P:Program):Nat->TypeId->Option (List (Option IntKind))
 |0,_=>none
 |d+1,t =>
  match P.underlying t with
  |some (.int k)=>some [some k]
  |some .bool=>some [none]
  |some (.struct fs)=>if P.stoodInHeld t then none else kindsF P (lN P d) 0 fs.toList
  |some (.array n e)=>match lN P d e with
   |some ks=>if dE P e == some ks.length && decide (0<ks.length)then some (fM (List.range n) λ_=>ks)else none
   |none=>none
  |_=>none
where
 kindsF (P:Program) (f:TypeId->Option (List (Option IntKind))) (o:Nat):List Field->Option (List (Option IntKind))
  |[]=>some []
  |x::r=>match f x.type with
   |some ks=>if x.name ≠ "_" /\ x.offset=o/\dE P x.type=some ks.length/\0<ks.length then(kindsF P f (o+ks.length) r).map (ks ++ ·)else none
   |none=>none
def zvC(P:Program)(t:TypeId):Option D :=
 match P.info? t with
 |some i=>match i.zero with
  |some z=>Na z
  |none=>none
 |none=>none
def Ks(P:Program)(t:TypeId):Option Ky :=
 match P.underlying t with
 |some .string=>some none
 |some (.int k)=>some (some (false,[some k]))
 |some (.struct fs) =>
  if fs.toList.all (λf=>match P.underlying f.type with | some (.int _)=>true | some .bool=>true | _=>false)then
   (lN P 20 t).map λks=>some (true,ks)
  else none
 |_=>none
def eqC(P:Program)(b:BinOp)(t:TypeId)(x y:bP):Option K :=
 match lN P 20 t with
 |some ks=>if P.eqGuardType P.depth t then none else
  match b with
  |.eql=>(u0 P t).map λag => .eqv ag ks false x y
  |.neq=>(u0 P t).map λag => .eqv ag ks true x y
  |_=>none
 |none=>none
def IP(ops:Array Oper):Nat->Nat->Nat
 |0,t=>t
 |n+1,t =>
  match ops.toList.find? (λo=>o.dst == some t)with
  |some o=>match o.op with
   |.fieldAddr _ (.tmp x) _=>IP ops n x
   |.indexAddr _ (.tmp x) _=>IP ops n x
   |_=>t
  |none=>t
def YH:Operand->Option Nat
 |.tmp t=>some t
 |_=>none
def YQ(ps:Bool)(b:BinOp)(x:bP):Option K :=
 match b with
 |.eql=>some (.isn ps false x)
 |.neq=>some (.isn ps true x)
 |_=>none
def Yi:TypeDesc->Bool
 |.slice _=>true
 |.string=>true
 |_=>false
def kC(P:Program)(a:tx)(ops:Array Oper)(key:Nat)(o:Oper):Option K :=
 match o.op with
 |.move x=>(bO x).map .mv
 |.assign x =>
  match CB x,P.underlying o.type,o.dst with
  |true,some (.slice e),some d=>if a.aaw.contains d then(dE P e).map .KA else(bO x).map .mv
  |_,_,_=>(bO x).map .mv
 |.pick c x y=>match bO c,bO x,bO y with
  |some c',some x',some y'=>some (.pick c' x' y')
  |_,_,_=>none
 |.alloc e=>match qX P e,o.dst with
  |some z,some d=>if a.kp.contains (2000000+key)then(match P.underlying e with
    |some (.struct fs)=>(match fs.toList with
     |[_,f]=>(match P.underlying f.type,z with
      |some (.slice b),[.zg,.bz]=>some (.mp (.K8 e b) [])
      |_,_=>none)
     |_=>none)
    |_=>none)else some (if a.dU.contains d then .B7 (look key [] a.nb) z else .Ug (look key [] a.nb) z)
  |_,_=>none
 |.box _ x=>match bO x,o.dst with
  |some x',some d=>some (if a.dU.contains d then .FM x' else if a.aaw.contains d then(match look key [] a.nb with | [] => .La x' | nb => .YO nb x')else .K9 x')
  |_,_=>none
 |.build t ps =>
  match P.underlying t,qX P t with
  |some (.struct fs),some z=>if fs.toList.all (λf=>(dE P f.type).isSome)then(um (Ch P fs) ps.toList).map (.K8 z)else none
  |some (.array _ e),some z=>match dE P e with
   |some w=>(um (λi=>some (i*w,w)) ps.toList).map (.K8 z)
   |none=>none
  |_,_=>none
 |.buildSlice t n ps =>
  match P.underlying t with
  |some (.slice e) =>
   match dE P e,qX P e,o.dst with
   |some w,some z,some d =>
    if 0<w/\z.length=w/\n*w<=2^24 then
     (um (λi=>some (i*w,w)) ps.toList).map λp =>
      let zs:=fM (List.range n) λ_=>z
      if n=0 && ps.isEmpty && a.kp.contains (1000000+key)then .bse else if a.aaw.contains d then .WU n w zs p else .YN n w zs p
    else none
   |_,_,_=>none
  |_=>none
 |.load t x=>match u0 P t,dE P t,bO x with
  |some g,some s,some (.t n)=>if(g || s == 1) && decide (0<s)then some (if a.dU.contains (IP ops 8 n)then .Vg (IP ops 8 n) g s n else if a.oc.contains (IP ops 8 n)then .Vf g s (.t n)else if a.kp.contains (3000000+key)then .Ve g s (.t n)else .ld g s (.t n))else none
  |_,_,_=>none
 |.store t x y=>match dE P t,bO x,bO y with
  |some s,some (.t n),some y'=>some (if a.dU.contains (IP ops 8 n)then .H5 (IP ops 8 n) (look key [] a.nb) s n y' else(match look key none a.sx with | some os => .U6 os s (.t n) y' | none => .st (look key [] a.nb) s (.t n) y'))
  |_,_,_=>none
 |.binOp b t x y _ =>
  match P.underlying t,bO x,bO y with
  |some (.int _),some x',some y'=>some (.bin b x' y')
  |some .bool,some x',some y'=>eqC P b t x' y'
  |some (.struct _),some x',some y'=>eqC P b t x' y'
  |some (.array _ _),some x',some y'=>eqC P b t x' y'
  |some .string,some x',some y'=>(match b with | .add=>some (.I2 .U0 [x',y']) | .eql=>some (.I2 (.seq false) [x',y']) | .neq=>some (.I2 (.seq true) [x',y']) | _=>none)
  |some (.pointer _),some x',some (.c .zg)=>YQ true b x'
  |some (.pointer el),some x',some y'=>if(P.info? el).isSome then(match b with | .eql=>some (.me (.peq false) [x',y']) | .neq=>some (.me (.peq true) [x',y']) | _=>none)else none
  |some (.slice _),some x',some (.c .bz)=>YQ false b x'
  |some (.interface _),some x',some (.c .nK)=>(match b,y with | .eql,.const .nilIface=>some (.isi false x') | .neq,.const .nilIface=>some (.isi true x') | _,_=>none)
  |_,_,_=>none
 |.nilCheck x=>(bO x).map .nck
 |.unOp b _ x=>(bO x).map (.un b)
 |.convert s d x =>
  match P.underlying s,P.underlying d,bO x with
  |some (.int _),some (.int k),some x'=>some (.W4 k x')
  |some (.slice e),some .string,some x'=>(match P.underlying e,dE P e with | some (.int .u8),some 1=>some (.me .b2s [x']) | _,_=>none)
  |some .string,some (.slice e),some x'=>(match P.underlying e,dE P e with | some (.int .u8),some 1=>some (.me .s2b [x']) | _,_=>none)
  |some (.slice e),some (.slice _),some x'=>if s=d then(match P.underlying e with | some (.int .u8)=>some (.cvz x') | _=>none)else none
  |_,_,_=>none
 |.sliceToArrayPointer t x =>
  match P.underlying t,bO x with
  |some (.array n e),some x'=>(dE P e).map λw => .me (.s2a n w) [x']
  |_,_=>none
 |.makeFunc (.func f) xs ys=>match xA xs.toList,xA ys.toList with
  |some xs',some ys'=>some (.XM f xs' ys')
  |_,_=>none
 |.makeSlice t x y =>
  match P.underlying t with
  |some (.slice e) =>
   match dE P e,(P.info? e).map (·.bytes),qX P e,bO x,bO y with
   |some w,some b,some z,some x',some y'=>if 0<w/\0<b then some (.YR w b z x' y')else none
   |_,_,_,_,_=>none
  |_=>none
 |.slice t x lo hi mx =>
  match P.underlying t,bO x,zi lo,zi hi,zi mx with
  |some (.slice e),some x',some lo',some hi',some mx'=>(dE P e).map λw => .Vj w x' lo' hi' mx'
  |some (.array n e),some x',some lo',some hi',some none=>(dE P e).map λw => .RN n w x' lo' hi'
  |some .string,some x',some lo',some hi',some none=>some (.I2 (.N5 lo'.isSome hi'.isSome) (x'::(lo'.toList++hi'.toList)))
  |_,_,_,_,_=>none
 |.fieldAddr s x i =>
  match P.underlying s,bO x with
  |some (.struct fs),some x' =>
   match Ch P fs i with
   |some (off,sz)=>if 0<sz then some (.Lc off x')else none
   |none=>none
  |_,_=>none
 |.field s x i =>
  match P.underlying s,bO x with
  |some (.struct fs),some x' =>
   match fs[i]? with
   |some f=>match u0 P f.type,dE P f.type with
    |some g,some sz=>if g || sz == 1 then some (.fld g f.offset sz x')else none
    |_,_=>none
   |none=>none
  |_,_=>none
 |.indexAddr t x i =>
  match P.underlying t,bO x,bO i with
  |some (.array n e),some x',some i'=>(dE P e).map λw => .Lf n w x' i'
  |some (.slice e),some x',some i'=>(dE P e).map λw => .HG w x' i'
  |_,_,_=>none
 |.index t x i =>
  match P.underlying t,bO x,bO i with
  |some (.array n e),some x',some i'=>match u0 P e,dE P e with
   |some g,some w=>if g || w == 1 then some (.Nq g n w x' i')else none
   |_,_=>none
  |some .string,some x',some i'=>some (.I2 .Ln [x',i'])
  |_,_,_=>none
 |.extract x i=>(bO x).map (.ext · i)
 |.call c =>
  match c.callee with
  |.value f=>match bO f,xA c.args.toList with
   |some f',some xs=>some (.call (a.kp.contains key) f' xs)
   |_,_=>none
  |.builtin .len =>
   match c.argTypes.toList,c.args.toList with
   |t::_,x::_=>match P.underlying t,bO x with
    |some (.slice _),some x'=>some (.Li x')
    |some .string,some x'=>some (.I2 .Qj [x'])
    |some (.map _ _),some x'=>some (.mp .len [x'])
    |some (.array n _),_=>some (.Rn n)
    |some (.pointer r),_=>(match P.underlying r with | some (.array n _)=>some (.Rn n) | _=>none)
    |_,_=>none
   |_,_=>none
  |.builtin .recover=>some .QA
  |.builtin .min=>match c.args.toList with
   |[x,y]=>(match bO x,bO y with | some x',some y'=>some (.mn x' y') | _,_=>none)
   |_=>none
  |.builtin .max=>match c.args.toList with
   |[x,y]=>(match bO x,bO y with | some x',some y'=>some (.mx x' y') | _,_=>none)
   |_=>none
  |.builtin .append =>
   match c.argTypes.toList,c.args.toList with
   |[t,u],[x,y]=>match P.underlying t,P.underlying u,bO x,bO y with
    |some (.slice e),some uu,some x',some y' =>
     if Yi uu=true then(match dE P e,(P.info? e).map (·.bytes),qX P e with
     |some w,some b,some z=>if 0<w/\0<b/\b<=2^20/\z.length=w then
       some (if CB x && !(o.dst.any a.aaw.contains)then .YP w b y' else if a.kp.contains (1000000+key) && (YH x).isSome then .ape w b ((YH x).getD 0) y' else if a.kp.contains key then .YM w b x' y' else(match look key none a.sx with | some os => .Ui os w b x' y' | none => .app w b x' y'))else none
     |_,_,_=>none)else none
    |_,_,_,_=>none
   |_,_=>none
  |_=>none
 |.makeInterface t x=>if P.concrete t=true then(bO x).map (.XN t)else none
 |.typeAssert x _ t ok =>
  match P.underlying t,bO x with
  |some (.interface _),_=>none
  |some _,some x'=>if ok then(zvC P t).map λz => .YU t (some z) x' else some (.YU t none x')
  |_,_=>none
 |.panic x=>(bO x).map .XZ
 |.makeMap _ none=>some (.mp .make [])
 |.makeMap t (some (.const (.int _ _)))=>(match P.underlying t with | some (.map _ _)=>some (.mp .make []) | _=>none)
 |.range t x =>
  match P.underlying t,bO x with
  |some (.map _ _),some x'=>some (.mp .rng [x'])
  |_,_=>none
 |.entry x=>(match bO x with
  |some x'=>some (.mp .ent [x'])
  |none=>none)
 |.lookup t x i ok =>
  match P.underlying t,bO x,bO i with
  |some (.map kt et),some x',some i'=>(match Ks P kt,zvC P et with
   |some ky,some z=>some (.mp (.get ky z ok) [x',i'])
   |_,_=>none)
  |_,_,_=>none
 |.mapUpdate t m x y =>
  match P.underlying t,bO m,bO x,bO y with
  |some (.map kt _),some m',some x',some y'=>(match Ks P kt with
   |some ky=>some (.mp (.put ky) [m',x',y'])
   |none=>none)
  |_,_,_,_=>none
 |.insert t m x y =>
  match P.underlying t,bO m,bO x,bO y with
  |some (.map kt _),some m',some x',some y'=>(match Ks P kt with
   |some ky=>some (.mp (.put ky) [m',x',y'])
   |none=>none)
  |_,_,_,_=>none
 |_=>none
def K.makes:K->Bool
 |.B7 .. => true
 |.FM _=>true
 |_=>false
def K.ah4:K->Bool
 |.H5 .. => true
 |_=>false
def US(P:Program)(a:tx)(n si:Nat)(ops:Array Oper)(Dd:Bool)(i:Nat)(o:Oper):Option Op :=
 match kC P a ops (si*1000+i) o with
 |some k =>
  match(match o.guard with
   |none=>some none
   |some (j,b)=>match(ops[j]?).bind (·.dst)with
    |some d=>some (some (d,b))
    |none=>none),(match o.dst with | some d=>decide (d<n) | none=>true)with
  |some g,true=>if(match o.dst with | some d => !(a.dU.contains d) || (k.makes && o.guard.isNone) | none => !k.makes) && (!k.ah4 || o.dst.isNone)then some {dst:=o.dst,FQ:=g,Dd,k }else none
  |_,_=>none
 |none=>none
def NB(P:Program)(a:tx)(n si:Nat)(ops:Array Oper)(tail:Nat):Nat->List Oper->Option (List Op)
 |_,[]=>some []
 |i,o::r=>match US P a n si ops (decide (i<tail) && !(a.kp.contains (si*1000+i))) i o,NB P a n si ops tail (i+1) r with
  |some x,some xs=>some (x::xs)
  |_,_=>none
def Mo.calm:Mo->Bool
 |.get .. => true
 |.len=>true
 |.ent=>true
 |_=>false
def K.calm:K->Bool
 |.st .. => false
 |.U6 .. => false
 |.app .. => false
 |.Ui .. => false
 |.YM .. => false
 |.cvz _=>false
 |.KA _=>false
 |.Ug .. => false
 |.La _=>false
 |.YO .. => false
 |.WU .. => false
 |.YR .. => false
 |.B7 nb _=>nb.isEmpty
 |.H5 _ nb _ _ _=>nb.isEmpty
 |.mp o _=>o.calm
 |.XZ _=>false
 |.QA=>false
 |_=>true
def K.pure:K->Bool
 |.ld .. => false
 |.Ve .. => false
 |.RN .. => false
 |.YP .. => false
 |.ape .. => false
 |.call .. => false
 |.mp .. => false
 |.me .. => false
 |k=>k.calm
def bP.tmps:bP->List Nat
 |.t n=>[n]
 |.c _=>[]
def K.tmps:K->List Nat
 |.mv x=>x.tmps
 |.KA _=>[]
 |.pick c a b=>c.tmps++a.tmps++b.tmps
 |.Ug .. => []
 |.B7 .. => []
 |.K9 x=>x.tmps
 |.La x=>x.tmps
 |.YO _ x=>x.tmps
 |.FM x=>x.tmps
 |.Vg v _ _ a=>[v,a]
 |.H5 v _ _ a x=>[v,a]++x.tmps
 |.K8 _ ps=>fM ps λp=>p.2.2.tmps
 |.YN _ _ _ ps=>fM ps λp=>p.2.2.tmps
 |.WU _ _ _ ps=>fM ps λp=>p.2.2.tmps
 |.ld _ _ a=>a.tmps
 |.Vf _ _ a=>a.tmps
 |.Ve _ _ a=>a.tmps
 |.isn _ _ x=>x.tmps
 |.nck x=>x.tmps
 |.st _ _ a x=>a.tmps++x.tmps
 |.U6 os _ a x=>a.tmps++x.tmps++os
 |.bin _ x y=>x.tmps++y.tmps
 |.eqv _ _ _ x y=>x.tmps++y.tmps
 |.un _ x=>x.tmps
 |.W4 _ x=>x.tmps
 |.XM _ xs ys=>fM xs bP.tmps++fM ys bP.tmps
 |.YR _ _ _ l c=>l.tmps++c.tmps
 |.Vj _ x lo hi m=>x.tmps++(lo.map bP.tmps).getD []++(hi.map bP.tmps).getD []++(m.map bP.tmps).getD []
 |.RN _ _ x lo hi=>x.tmps++(lo.map bP.tmps).getD []++(hi.map bP.tmps).getD []
 |.Lc _ x=>x.tmps
 |.fld _ _ _ x=>x.tmps
 |.Lf _ _ x i=>x.tmps++i.tmps
 |.HG _ x i=>x.tmps++i.tmps
 |.Nq _ _ _ x i=>x.tmps++i.tmps
 |.Li x=>x.tmps
 |.Rn _=>[]
 |.mn x y=>x.tmps++y.tmps
 |.mx x y=>x.tmps++y.tmps
 |.app _ _ s x=>s.tmps++x.tmps
 |.Ui os _ _ s x=>s.tmps++x.tmps++os
 |.YM _ _ s x=>s.tmps++x.tmps
 |.YP _ _ x=>x.tmps
 |.cvz x=>x.tmps
 |.bse=>[]
 |.ape _ _ v x=>v::x.tmps
 |.ext x _=>x.tmps
 |.I2 _ xs=>fM xs bP.tmps
 |.mp _ xs=>fM xs bP.tmps
 |.me _ xs=>fM xs bP.tmps
 |.XN _ x=>x.tmps
 |.YU _ _ x=>x.tmps
 |.isi _ x=>x.tmps
 |.XZ x=>x.tmps
 |.QA=>[]
 |.call _ f xs=>f.tmps++fM xs bP.tmps
def Op.Hf(o:Op):List Nat:=(match o.FQ with | some (g,_)=>[g] | none=>[])++o.k.tmps
def iA:List Oper->List Nat->List Nat
 |[],acc=>acc
 |o::r,acc=>iA r (acc++[o.after.toList.foldl (λs e=>if Region.binds .any e then s ||| 2^e.on ||| acc.getD e.on 0 else s) 0])
def CN(bs:List Nat):Nat :=
 go bs.length
where
 go:Nat->Nat
  |0=>0
  |n+1=>if bs.getD n 0=2^n-1 then go n else n+1
def Op.defs(o:Op):List Nat:=o.dst.toList++(match o.k with | .H5 v _ _ _ _=>[v] | _=>[])
def Op.abC(o p:Op):Bool :=
 o.defs.any (λd=>p.defs.contains d || p.Hf.contains d) || o.Hf.any (λd=>p.defs.contains d)
def Op.still(op:Op):Bool:=op.k.calm && op.Dd
def Op.far(o p:Op):Bool :=
 o.FQ.isNone && p.FQ.isNone &&
 match o.k,p.k with
 |.U6 os _ _ _,.ld _ _ (.t m)=>os.contains m
 |.ld _ _ (.t m),.U6 os _ _ _=>os.contains m
 |.U6 os _ _ _,.U6 _ _ (.t m) _=>os.contains m
 |.Ui os _ _ _ _,.ld _ _ (.t m)=>os.contains m
 |.ld _ _ (.t _),.Ug [] _=>true
 |.Ui ..,.Ve _ _ (.t _)=>true
 |_,_=>false
def Op.adr(o p:Op):Bool :=
 match o,p with
 |⟨none,none,_,.H5 v [] _ a x⟩,⟨some d,none,_,.Lc _ (.t m)⟩=>decide (m=v/\d≠v/\d≠a/\d ∉ x.tmps)
 |_,_=>false
def Op.free(o p:Op):Bool:=o.adr p || (!(o.abC p) && (o.still && p.still || o.k.pure || p.k.pure || o.far p))
def JU(bs:List Nat):Nat->List Op->Bool
 |_,[]=>true
 |i,o::r=>after i (i+1) o r && JU bs (i+1) r
where
 after (i:Nat):Nat->Op->List Op->Bool
  |_,_,[]=>true
  |j,o,p::r=>(o.free p || (bs.getD j 0).testBit i) && after i (j+1) o r
def Ge:Nat->List Oper->Bool
 |_,[]=>true
 |i,o::r=>(o.after.toList.all λe => !Region.binds .any e || decide (e.on<i)) && Ge (i+1) r
def JY(live:List Nat):Option Nat->List Op->b9
 |some j,xs=>match xs.drop j with
  |x::r => .Qs live (xs.take j) x r
  |[] => .si live xs
 |none,xs => .si live xs
def RF(P:Program)(a:tx)(n:Nat)(id:Nat)(ops:Array Oper)(draw:Bool):Option b9 :=
  if draw then
   let bs:=iA ops.toList []
   let tail:=CN bs
   match NB P a n id ops tail 0 ops.toList with
   |some xs=>if JU bs 0 (xs.take tail) && Ge 0 ops.toList && xs.all (λx=>x.k != .QA)then some (JY (look id [] a.live) ((look id none a.fu).filter λj=>decide (tail<=j)) xs)else none
   |none=>none
  else(NB P a n id ops 0 0 ops.toList).map (JY (look id [] a.live) (look id none a.fu))
def Au(c:b9):List Nat->b9
 |[]=>c
 |vs => .seq (.cF vs) c
def DI:b9:=.si [] [⟨none,none,false,.isn false false (.c .undef)⟩]
def Ng:Code->Option (bP×List bP)
 |.region _ ops false =>
  match ops.toList with
  |[o]=>(match o.op,o.dst,o.guard with
   |.defer c,none,none=>(match c.callee with
    |.value f=>(match bO f,xA c.args.toList with
     |some f',some xs=>some (f',xs)
     |_,_=>none)
    |_=>none)
   |_,_,_=>none)
  |_=>none
 |_=>none
def Ur(P:Program)(a:tx)(n:Nat):Code->Option (b9×bP×List bP)
 |.region id ops false =>
  match ops.toList with
  |[m,o]=>(match o.op,o.dst,o.guard,m.dst with
   |.defer c,none,none,some t=>(match c.callee with
    |.value f=>(match US P a n id ops false 0 m,bO f,xA c.args.toList with
     |some op,some f',some xs=>if op.k=.QA then none else some (.si (t::(fM xs bP.tmps++look id [] a.live)) [op],f',xs)
     |_,_,_=>none)
    |_=>none)
   |_,_,_,_=>none)
  |_=>none
 |_=>none
def Rr(a:tx)(n:Nat):Code->Option (Nat×Nat×Nat)
 |.loop (.seq (.region _ ops false) _) =>
  match ops.toList with
  |[o,p]=>(match o.op,o.dst,o.guard,p.op,p.dst,p.guard with
   |.next (.tmp it) false,some nx,none,.extract (.tmp nx') 0,some ok,none =>
    if nx'=nx/\nx<n/\ok<n/\nx≠ok/\nx ∉ a.dU/\ok ∉ a.dU then some (it,nx,ok)else none
   |_,_,_,_,_,_=>none)
  |_=>none
 |_=>none
def ZW(a:tx)(n id:Nat)(x:Code)(x':b9):b9 :=
 match Rr a n x,x' with
 |some (it,nx,ok),.loop live _ (.seq _ c) => .iq live (.t it) nx ok id c .Ji
 |_,x' => .dJ id x'
def aaZ(a:tx):Code->Bool
 |.region id ops _=>a.bF.contains (1000000+id) && decide (2<ops.size)
 |_=>false
def U1(P:Program)(a:tx)(n:Nat)(x:Code)(x' y':b9):b9 :=
 match Ng x with
 |some (f,xs) => .Uq f xs y'
 |none =>
  match Ur P a n x with
  |some (c,f,xs) => .seq c (.Uq f xs y')
  |none =>
  match x,x' with
  |.seq _ (.block _ _),.seq p' (.iq live it nx ok b c .Ji) => .seq p' (.iq live it nx ok b c y')
  |_,_ => .seq x' (if aaZ a x then .sgm y' else y')
def KS(c:b9):b9:=match iy c with | some _=>DI | none => .seq .Ji c
def ct(P:Program)(a:tx)(n:Nat)(dJ:Nat):Code->Option b9
 |.skip=>some .Ji
 |.region id ops draw=>match RF P a n id ops draw with
  |some c=>some (Au c (look id [] a.fz))
  |none=>some DI
 |.seq x y=>match ct P a n dJ x,ct P a n dJ y with
  |some x',some y'=>some (U1 P a n x x' y')
  |_,_=>none
 |.cond c x y=>match bO c,ct P a n dJ x,ct P a n dJ y with
  |some c',some x',some y'=>some (.ite c' x' y')
  |_,_,_=>none
 |.block id x=>(ct P a n id x).map (ZW a n id x)
 |.loop x=>(ct P a n dJ x).map (.loop (look dJ [] a.abP) (a.bF.contains dJ))
 |.rangeFunc f ps x y=>match bO f,ct P a n dJ x,ct P a n dJ y with
  |some f',some x',some y'=>if ps.toList.all (λt=>decide (t<n) && !(a.dU.contains t))then some (.NR (look dJ [] a.abP) f' ps.toList x' y')else none
  |_,_,_=>none
 |.exit id=>some (.exit id)
 |.ret=>some .ret
 |.scope x=>(ct P a n dJ x).map KS
 |.label _=>some .Ji
 |_=>some DI
def aaQ(P:Program)(a:tx):ResultVar->Option F5
 |.tmp t=>some (.t t)
 |.cell x t=>match u0 P t,dE P t with
  |some g,some s=>if(g || s == 1) && decide (0<s)then some (if a.dU.contains x then .v x g s else .c x g s)else none
  |_,_=>none
def IN(P:Program)(a:tx):List ResultVar->Option (List F5)
 |[]=>some []
 |r::rs=>match aaQ P a r,IN P a rs with
  |some x,some xs=>some (x::xs)
  |_,_=>none
def fnC(P:Program)(a:tx)(f:Func):Option Fn :=
 match f.body with
 |some c=>match ct P a f.ntmps 0 c,IN P a f.results.toList with
  |some c',some rs=>if f.params.size+f.nfree<=f.ntmps then some {Rz:=f.params.size+f.nfree,res:=rs,body:=c' }else none
  |_,_=>none
 |none=>none
def Rd(w:World)(b o:Nat)(vs:List Value):Prop:=∀(j:Nat) x,vs[j]?=some x->w.cell? ⟨b,o+j,none⟩=some x
theorem Rd.take{w:World}{b o:Nat}{vs:List Value}(h:Rd w b o vs)(n:Nat):Rd w b o (vs.take n):=λj x e=>h j x (by
 rw[di]at e;split at e<;>simp_all)
theorem Rd.drop{w:World}{b o:Nat}{vs:List Value}(h:Rd w b o vs)(n:Nat):Rd w b (o+n) (vs.drop n):=λj x e=>by
 have:=h (n+j) x (by rw[dY]at e;exact e);rw[show o+n+j=o+(n+j)from by omega];exact this
theorem add_eq(b o n:Nat):Addr.add ⟨b,o,none⟩ n=⟨b,o+n,none⟩:=by
 unfold Addr.add;split
 .subst_vars;rfl
 .rfl
section types
variable {P:Program} {t:TypeId}
theorem run_typeInfo{i:TypeInfo}(h:P.info? t=some i)(w:World):(typeInfo t).run P w=.ok i w:=by
 simp[typeInfo,h]
theorem run_sizeOf{s:Nat}(h:dE P t=some s)(w:World):(sizeOf t).run P w=.ok s w:=by
 simp only[dE,ad]at h;obtain⟨i,hi,rfl⟩:=h;simp[sizeOf,run_typeInfo hi]
theorem bD{d:TypeDesc}(h:P.underlying t=some d)(w:World):(underlying t).run P w=.ok d w:=by
 simp[underlying,h]
theorem EH{b:Bool}(h:u0 P t=some b)(w:World):(isAgg t).run P w=.ok b w:=by
 unfold u0 at h;cases hu:P.underlying t with
 |none=>simp[hu]at h
 |some d =>
  rw[hu]at h;simp only[isAgg,Sem.run_bind,bD hu,Result.andThen_ok];cases d<;>simp_all
theorem gz{z:Value}{i:TypeInfo}(h:P.info? t=some i)(hz:i.zero=some z)(w:World):(zeroValue t).run P w=.ok z w:=by
 simp[zeroValue,run_typeInfo h,hz]
end types
theorem Qw(g:G){v:Value}{d:D}(h:abk v=some d):bQ g d v/\v.oneCell'=true:=by
 unfold abk at h;split at h<;>first | (cases h;exact⟨by constructor,rfl⟩) | cases h
theorem JV(g:G){vs:List Value}{ds:List D}(h:Ht vs=some ds):bN g ds vs/\∀x∈vs,x.oneCell'=true:=by
 induction vs generalizing ds with
 |nil=>simp only[Ht,ae]at h;subst h;exact⟨.nil,by simp⟩
 |cons v vs ih =>
  simp only[Ht]at h;split at h
  .rename_i d ds' h1 h2;cases h;obtain⟨h3,h4⟩:=ih h2;obtain⟨h5,h6⟩:=Qw g h1;exact⟨.cons _ _ _ _ h5 h3,by simp only[bw];rintro x (rfl | hx);exact h6;exact h4 x hx⟩
  .cases h
theorem JX(g:G){v:Value}{d:D}(h:Na v=some d):bQ g d v:=by
 unfold Na at h;split at h
 .rename_i cs;simp only[ad]at h;obtain⟨ds,h1,rfl⟩:=h;obtain⟨h2,h3⟩:=JV g h1;exact .agg ds cs h2 h3
 .exact(Qw g h).1
theorem tp{P:Program}{t:TypeId}(g:G){z:List D}(h:qX P t=some z):∃i v,P.info? t=some i/\i.zero=some v/\bN g z v.cells.toList/\∀x∈v.cells.toList,x.oneCell'=true:=by
 unfold qX at h;split at h
 .rename_i i hi;split at h
  .rename_i v hv;obtain⟨h2,h3⟩:=JV g h;exact⟨i,v,hi,hv,h2,h3⟩
  .cases h
 .cases h
theorem Ed{P:Program}{t:TypeId}{w:World}{b o sz:Nat}{ag:Bool}{vs:List Value}(hag:u0 P t=some ag)(hsz:dE P t=some sz)(hone:(ag || sz == 1)=true)
  (hr:Rd w b o vs) (hlen:sz<=vs.length):
  ∃v,(loadVar t ⟨b,o,none⟩).run P w=.ok v w/\(if ag then v=.agg (vs.take sz).toArray else ∃x r,vs=x::r/\v=x):=by
 cases ag with
 |true =>
  have h1:(loadCells ⟨b,o,none⟩ sz).run P w=.ok (vs.take sz).toArray w:=by
   have:=run_loadCells_list (P:=P) w ⟨b,o,none⟩ (vs.take sz) (λj v e=>by rw[add_eq];exact hr.take sz j v e);rwa[dA,Nat.min_eq_left hlen]at this
  exact⟨_,by simp[loadVar,EH hag,run_sizeOf hsz,h1],rfl⟩
 |false =>
  simp only[Bool.false_or,beq_iff_eq]at hone;subst hone;cases vs with
  |nil=>simp at hlen
  |cons x r =>
   have:=hr 0 x rfl;exact⟨x,by simp only[Nat.add_zero]at this;simp[loadVar,EH hag,this],x,r,rfl,rfl⟩
theorem zm{P:Program}{b:Nat}{el:TypeId}:∀(ps:List Value) (w:World) (o i:Nat) (c:Array Value),(∀x∈ps,x.oneCell'=true) ->
  w.heap[b]?=some (.cells c el (0,0))->o+i+ps.length<=c.size ->
  ∃w' c',(storeCells ⟨b,o,none⟩ ps i).run P w=.ok () w'/\w'.heap[b]?=some (.cells c' el (0,0))/\c'.size=c.size /\
   (∀j,c'[j]?=if o+i<=j/\j<o+i+ps.length then ps[j-(o+i)]? else c[j]?) /\
   (∀x,x≠b->w'.heap[x]?=w.heap[x]?)/\w'.heap.size=w.heap.size/\w'.os=w.os/\w'.tape=w.tape/\w'.output=w.output
 |[],w,o,i,c,_,hb,_=>⟨w,c,by simp[storeCells],hb,rfl,λj=>by rw[if_neg (by simp only[aY];omega)],λ_ _=>rfl,rfl,rfl,rfl,rfl⟩
 |p::ps,w,o,i,c,h1,hb,hl=>by
  simp only[aE]at hl;have hp:=h1 p (by simp);have hcell:w.cell? ⟨b,o+i,none⟩=some (c[o+i]'(by omega)):=by
   simp only[World.cell?,hb];simp
  have hfz:w.frozen? ⟨b,o+i,none⟩=false:=by simp[World.frozen?,hb]
  have hb1:(w.setCell ⟨b,o+i,none⟩ p).heap[b]?=some (.cells (c.setIfInBounds (o+i) p) el (0,0)):=by
   simp[World.setCell,eu,hb]
  obtain⟨w',c',hrun,hb',hs,hc,ho,hsz,e1,e2,e3⟩:=zm ps (w.setCell ⟨b,o+i,none⟩ p) o (i+1) (c.setIfInBounds (o+i) p) (λx hx=>h1 x (by simp[hx])) hb1 (by simp;omega);refine⟨w',c',?_,hb',by simpa using hs,?_,?_,by simpa using hsz,e1,e2,e3⟩
  .simp only[storeCells,Sem.run_bind,add_eq,run_store P w _ p .plain hp,hcell,hfz];simpa using hrun
  .intro j;rw[hc j];by_cases hj:j=o+i
   .subst hj;rw[if_neg (by omega),if_pos (by simp)];rw[Array.getElem?_setIfInBounds_self_of_lt (by omega)];simp
   .by_cases hj2:o+(i+1)<=j/\j<o+(i+1)+ps.length
    .rw[if_pos hj2,if_pos (by simp;omega)];rw[show j-(o+i)=(j-(o+(i+1)))+1 from by omega];simp
    .rw[if_neg hj2,if_neg (by simp;omega)];rw[Array.getElem?_setIfInBounds_ne (by omega)]
  .intro x hx;rw[ho x hx];simp only[World.setCell,eu];rw[if_neg (by simpa using λe=>hx e.symm)]
theorem G7{P:Program}{t:TypeId}{w:World}{b o sz:Nat}{el:TypeId}{c:Array Value}{v:Value}(hsz:dE P t=some sz)(hv:v.cells.size=sz)
  (h1:∀x∈v.cells.toList,x.oneCell'=true) (hb:w.heap[b]?=some (.cells c el (0,0))) (hl:o+sz<=c.size):
  ∃w' c',(storeVar t ⟨b,o,none⟩ v).run P w=.ok () w'/\w'.heap[b]?=some (.cells c' el (0,0))/\c'.size=c.size /\
   (∀j,c'[j]?=if o<=j/\j<o+sz then v.cells.toList[j-o]? else c[j]?) /\
   (∀x,x≠b->w'.heap[x]?=w.heap[x]?)/\w'.heap.size=w.heap.size/\w'.os=w.os/\w'.tape=w.tape/\w'.output=w.output:=by
 obtain⟨w',c',hrun,rest⟩:=zm (P:=P) (b:=b) (el:=el) v.cells.toList w o 0 c h1 hb (by simp[hv];omega);refine⟨w',c',?_,?_⟩
 .simp only[storeVar,Sem.run_bind,run_sizeOf hsz,Result.andThen_ok,hv];simpa using hrun
 .simpa[hv]using rest
end Go.Abs
