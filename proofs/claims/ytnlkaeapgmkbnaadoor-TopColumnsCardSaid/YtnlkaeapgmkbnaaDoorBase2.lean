import Derived.Test.YtnlkaeapgmkbnaaDoorBase0
import GoSem.Core.Program
import GoSem.Core.Layout
import Derived.Laws.Build
import Derived.Test.YtnlkaeapgmkbnaaDoorBase1
set_option linter.all false
namespace Go.Abs
open Go
structure jq where
 live:List (Nat×List Nat)
 Eo:List (Nat×List Nat)
 kF:List Nat
 zU:List Nat
 bH:List Nat
 nb:List (Nat×List (Nat×Nat))
 kp:List Nat
 fz:List (Nat×List Nat)
 fp:List Nat
 sx:List (Nat×Option (List Nat))
 eO:List (Nat×Option Nat):=[]
def look{α:Type}(n:Nat)(d:α):List (Nat×α)→α
 |[]=>d
 |(k,v)::r=>if k=n then v else look n d r
def Ap:Value→Option D
 |.bool b=>some (.bool b)
 |.int k n=>some (.int k n)
 |.string s=>some (.str s.data.toList)
 |.pointer none=>some .j3
 |.slice none 0 0=>some .cH
 |.nilFunc=>some .lL
 |.nilIface=>some .ia
 |.map none=>some .undef
 |_=>none
def nS:List Value→Option (List D)
 |[]=>some []
 |v::vs=>match Ap v,nS vs with
  |some d,some ds=>some (d::ds)
  |_,_=>none
def r7:Value→Option D
 |.agg cs=>(nS cs.toList).map .agg
 |v=>Ap v
def aF:Operand→Option aM
 |.tmp t=>some (.t t)
 |.const v=>(r7 v).map .c
 |.func f=>some (.c (.fn f [] []))
 |.global _=>none
def jv:List Operand→Option (List aM)
 |[]=>some []
 |x::xs=>match aF x,jv xs with
  |some y,some ys=>some (y::ys)
  |_,_=>none
def jU:Option Operand→Option (Option aM)
 |none=>some none
 |some x=>(aF x).map some
def bx(P:Program)(t:TypeId):Option Nat:=(P.info? t).map (·.size)
def iU(P:Program)(t:TypeId):Option Bool :=
 match P.underlying t with
 |some (.struct _) | some (.array _ _)=>some true
 |some _=>some false
 |none=>none
def gM(P:Program)(t:TypeId):Option (List D) :=
 match P.info? t with
 |some i=>match i.zero with
  |some z=>nS z.cells.toList
  |none=>none
 |none=>none
def lj:Operand→Bool
 |.const (.slice none 0 0)=>true
 |_=>false
def iK(place:Nat→Option (Nat×Nat)):List (Nat×Operand)→Option (List (Nat×Nat×aM))
 |[]=>some []
 |(i,x)::r=>match place i,aF x,iK place r with
  |some (o,s),some y,some r'=>some ((o,s,y)::r')
  |_,_,_=>none
def lf(P:Program)(fs:Array Field)(i:Nat):Option (Nat×Nat) :=
 match fs[i]? with
 |some f=>(bx P f.type).map fun s=>(f.offset,s)
 |none=>none
def ep(P:Program):Nat→TypeId→Option (List (Option IntKind))
 |0,_=>none
 |d+1,t =>
  match P.underlying t with
  |some (.int k)=>some [some k]
  |some .bool=>some [none]
  |some (.struct fs)=>if P.stoodInHeld t then none else kindsF P (ep P d) 0 fs.toList
  |some (.array n e)=>match ep P d e with
   |some ks=>if bx P e == some ks.length && decide (0<ks.length)then some ((List.range n).flatMap fun _=>ks)else none
   |none=>none
  |_=>none
where
 kindsF (P:Program) (f:TypeId→Option (List (Option IntKind))) (o:Nat):List Field→Option (List (Option IntKind))
  |[]=>some []
  |x::r=>match f x.type with
   |some ks=>if x.name ≠ "_" ∧ x.offset=o∧bx P x.type=some ks.length∧0<ks.length then(kindsF P f (o+ks.length) r).map (ks ++ ·)else none
   |none=>none
def HZ(P:Program)(t:TypeId):Option D :=
 match P.info? t with
 |some i=>match i.zero with
  |some z=>r7 z
  |none=>none
 |none=>none
def pK(P:Program)(t:TypeId):Option Ky :=
 match P.underlying t with
 |some .string=>some none
 |some (.int k)=>some (some (false,[some k]))
 |some (.struct fs) =>
  if fs.toList.all (fun f=>match P.underlying f.type with | some (.int _)=>true | some .bool=>true | _=>false)then
   (ep P 20 t).map fun ks=>some (true,ks)
  else none
 |_=>none
def Fh(P:Program)(b:BinOp)(t:TypeId)(x y:aM):Option K :=
 match ep P 20 t with
 |some ks=>if P.eqGuardType P.depth t then none else
  match b with
  |.eql=>(iU P t).map fun ag => .eqv ag ks false x y
  |.neq=>(iU P t).map fun ag => .eqv ag ks true x y
  |_=>none
 |none=>none
def oC(ops:Array Oper):Nat→Nat→Nat
 |0,t=>t
 |n+1,t =>
  match ops.toList.find? (fun o=>o.dst == some t)with
  |some o=>match o.op with
   |.fieldAddr _ (.tmp x) _=>oC ops n x
   |.indexAddr _ (.tmp x) _=>oC ops n x
   |_=>t
  |none=>t
def yX:Operand→Option Nat
 |.tmp t=>some t
 |_=>none
def zg(ps:Bool)(b:BinOp)(x:aM):Option K :=
 match b with
 |.eql=>some (.Gj ps false x)
 |.neq=>some (.Gj ps true x)
 |_=>none
def yK:TypeDesc→Bool
 |.slice _=>true
 |.string=>true
 |_=>false
def kC(P:Program)(a:jq)(ops:Array Oper)(key:Nat)(o:Oper):Option K :=
 match o.op with
 |.move x=>(aF x).map .mv
 |.assign x =>
  match lj x,P.underlying o.type,o.dst with
  |true,some (.slice e),some d=>if a.zU.contains d then(bx P e).map .ln else(aF x).map .mv
  |_,_,_=>(aF x).map .mv
 |.pick c x y=>match aF c,aF x,aF y with
  |some c',some x',some y'=>some (.pick c' x' y')
  |_,_,_=>none
 |.alloc e=>match gM P e,o.dst with
  |some z,some d=>if a.kp.contains (2000000+key)then(match P.underlying e with
    |some (.struct fs)=>(match fs.toList with
     |[_,f]=>(match P.underlying f.type,z with
      |some (.slice b),[.j3,.cH]=>some (.mp (.kR e b) [])
      |_,_=>none)
     |_=>none)
    |_=>none)else some (if a.bH.contains d then .ft (look key [] a.nb) z else .ui (look key [] a.nb) z)
  |_,_=>none
 |.box _ x=>match aF x,o.dst with
  |some x',some d=>some (if a.bH.contains d then .pq x' else if a.zU.contains d then(match look key [] a.nb with | [] => .um x' | nb => .E7 nb x')else .qR x')
  |_,_=>none
 |.build t ps =>
  match P.underlying t,gM P t with
  |some (.struct fs),some z=>if fs.toList.all (fun f=>(bx P f.type).isSome)then(iK (lf P fs) ps.toList).map (.kR z)else none
  |some (.array _ e),some z=>match bx P e with
   |some w=>(iK (fun i=>some (i*w,w)) ps.toList).map (.kR z)
   |none=>none
  |_,_=>none
 |.buildSlice t n ps =>
  match P.underlying t with
  |some (.slice e) =>
   match bx P e,gM P e,o.dst with
   |some w,some z,some d =>
    if 0<w∧z.length=w∧n*w≤2^24 then
     (iK (fun i=>some (i*w,w)) ps.toList).map fun p =>
      let zs:=(List.range n).flatMap fun _=>z
      if n=0 && ps.isEmpty && a.kp.contains (1000000+key)then .Hr else if a.zU.contains d then .ze n w zs p else .sS n w zs p
    else none
   |_,_,_=>none
  |_=>none
 |.load t x=>match iU P t,bx P t,aF x with
  |some g,some s,some (.t n)=>if(g || s == 1) && decide (0<s)then some (if a.bH.contains (oC ops 8 n)then .wG (oC ops 8 n) g s n else if a.fp.contains (oC ops 8 n)then .HC g s (.t n)else if a.kp.contains (3000000+key)then .zi g s (.t n)else .ld g s (.t n))else none
  |_,_,_=>none
 |.store t x y=>match bx P t,aF x,aF y with
  |some s,some (.t n),some y'=>some (if a.bH.contains (oC ops 8 n)then .q9 (oC ops 8 n) (look key [] a.nb) s n y' else(match look key none a.sx with | some os => .wA os s (.t n) y' | none => .st (look key [] a.nb) s (.t n) y'))
  |_,_,_=>none
 |.binOp b t x y _ =>
  match P.underlying t,aF x,aF y with
  |some (.int _),some x',some y'=>some (.bin b x' y')
  |some .bool,some x',some y'=>Fh P b t x' y'
  |some (.struct _),some x',some y'=>Fh P b t x' y'
  |some (.array _ _),some x',some y'=>Fh P b t x' y'
  |some .string,some x',some y'=>(match b with | .add=>some (.oA .Ag [x',y']) | .eql=>some (.oA (.seq false) [x',y']) | .neq=>some (.oA (.seq true) [x',y']) | _=>none)
  |some (.pointer _),some x',some (.c .j3)=>zg true b x'
  |some (.pointer el),some x',some y'=>if(P.info? el).isSome then(match b with | .eql=>some (.me (.peq false) [x',y']) | .neq=>some (.me (.peq true) [x',y']) | _=>none)else none
  |some (.slice _),some x',some (.c .cH)=>zg false b x'
  |some (.interface _),some x',some (.c .ia)=>(match b,y with | .eql,.const .nilIface=>some (.Gi false x') | .neq,.const .nilIface=>some (.Gi true x') | _,_=>none)
  |_,_,_=>none
 |.nilCheck x=>(aF x).map .sV
 |.unOp b _ x=>(aF x).map (.un b)
 |.convert s d x =>
  match P.underlying s,P.underlying d,aF x with
  |some (.int _),some (.int k),some x'=>some (.r8 k x')
  |some (.slice e),some .string,some x'=>(match P.underlying e,bx P e with | some (.int .u8),some 1=>some (.me .ME [x']) | _,_=>none)
  |some .string,some (.slice e),some x'=>(match P.underlying e,bx P e with | some (.int .u8),some 1=>some (.me .NN [x']) | _,_=>none)
  |some (.slice e),some (.slice _),some x'=>if s=d then(match P.underlying e with | some (.int .u8)=>some (.Fc x') | _=>none)else none
  |_,_,_=>none
 |.sliceToArrayPointer t x =>
  match P.underlying t,aF x with
  |some (.array n e),some x'=>(bx P e).map fun w => .me (.NM n w) [x']
  |_,_=>none
 |.makeFunc (.func f) xs ys=>match jv xs.toList,jv ys.toList with
  |some xs',some ys'=>some (.yq f xs' ys')
  |_,_=>none
 |.makeSlice t x y =>
  match P.underlying t with
  |some (.slice e) =>
   match bx P e,(P.info? e).map (·.bytes),gM P e,aF x,aF y with
   |some w,some b,some z,some x',some y'=>if 0<w∧0<b then some (.Gt w b z x' y')else none
   |_,_,_,_,_=>none
  |_=>none
 |.slice t x lo hi mx =>
  match P.underlying t,aF x,jU lo,jU hi,jU mx with
  |some (.slice e),some x',some lo',some hi',some mx'=>(bx P e).map fun w => .HW w x' lo' hi' mx'
  |some (.array n e),some x',some lo',some hi',some none=>(bx P e).map fun w => .pX n w x' lo' hi'
  |some .string,some x',some lo',some hi',some none=>some (.oA (.wz lo'.isSome hi'.isSome) (x'::(lo'.toList++hi'.toList)))
  |_,_,_,_,_=>none
 |.fieldAddr s x i =>
  match P.underlying s,aF x with
  |some (.struct fs),some x' =>
   match lf P fs i with
   |some (off,sz)=>if 0<sz then some (.qT off x')else none
   |none=>none
  |_,_=>none
 |.field s x i =>
  match P.underlying s,aF x with
  |some (.struct fs),some x' =>
   match fs[i]? with
   |some f=>match iU P f.type,bx P f.type with
    |some g,some sz=>if g || sz == 1 then some (.Ek g f.offset sz x')else none
    |_,_=>none
   |none=>none
  |_,_=>none
 |.indexAddr t x i =>
  match P.underlying t,aF x,aF i with
  |some (.array n e),some x',some i'=>(bx P e).map fun w => .vV n w x' i'
  |some (.slice e),some x',some i'=>(bx P e).map fun w => .oI w x' i'
  |_,_,_=>none
 |.index t x i =>
  match P.underlying t,aF x,aF i with
  |some (.array n e),some x',some i'=>match iU P e,bx P e with
   |some g,some w=>if g || w == 1 then some (.oJ g n w x' i')else none
   |_,_=>none
  |some .string,some x',some i'=>some (.oA .oN [x',i'])
  |_,_,_=>none
 |.extract x i=>(aF x).map (.ext · i)
 |.call c =>
  match c.callee with
  |.value f=>match aF f,jv c.args.toList with
   |some f',some xs=>some (.call (a.kp.contains key) f' xs)
   |_,_=>none
  |.builtin .len =>
   match c.argTypes.toList,c.args.toList with
   |t::_,x::_=>match P.underlying t,aF x with
    |some (.slice _),some x'=>some (.q5 x')
    |some .string,some x'=>some (.oA .uO [x'])
    |some (.map _ _),some x'=>some (.mp .len [x'])
    |some (.array n _),_=>some (.uC n)
    |some (.pointer r),_=>(match P.underlying r with | some (.array n _)=>some (.uC n) | _=>none)
    |_,_=>none
   |_,_=>none
  |.builtin .recover=>some .vy
  |.builtin .min=>match c.args.toList with
   |[x,y]=>(match aF x,aF y with | some x',some y'=>some (.mn x' y') | _,_=>none)
   |_=>none
  |.builtin .max=>match c.args.toList with
   |[x,y]=>(match aF x,aF y with | some x',some y'=>some (.mx x' y') | _,_=>none)
   |_=>none
  |.builtin .append =>
   match c.argTypes.toList,c.args.toList with
   |[t,u],[x,y]=>match P.underlying t,P.underlying u,aF x,aF y with
    |some (.slice e),some uu,some x',some y' =>
     if yK uu=true then(match bx P e,(P.info? e).map (·.bytes),gM P e with
     |some w,some b,some z=>if 0<w∧0<b∧b≤2^20∧z.length=w then
       some (if lj x && !(o.dst.any a.zU.contains)then .E9 w b y' else if a.kp.contains (1000000+key) && (yX x).isSome then .E3 w b ((yX x).getD 0) y' else if a.kp.contains key then .E4 w b x' y' else(match look key none a.sx with | some os => .zd os w b x' y' | none => .app w b x' y'))else none
     |_,_,_=>none)else none
    |_,_,_,_=>none
   |_,_=>none
  |_=>none
 |.makeInterface t x=>if P.concrete t=true then(aF x).map (.HH t)else none
 |.typeAssert x _ t ok =>
  match P.underlying t,aF x with
  |some (.interface _),_=>none
  |some _,some x'=>if ok then(HZ P t).map fun z => .Ho t (some z) x' else some (.Ho t none x')
  |_,_=>none
 |.panic x=>(aF x).map .z6
 |.makeMap _ none=>some (.mp .make [])
 |.makeMap t (some (.const (.int _ _)))=>(match P.underlying t with | some (.map _ _)=>some (.mp .make []) | _=>none)
 |.range t x =>
  match P.underlying t,aF x with
  |some (.map _ _),some x'=>some (.mp .MS [x'])
  |_,_=>none
 |.entry x=>(match aF x with
  |some x'=>some (.mp .Hu [x'])
  |none=>none)
 |.lookup t x i ok =>
  match P.underlying t,aF x,aF i with
  |some (.map kt et),some x',some i'=>(match pK P kt,HZ P et with
   |some ky,some z=>some (.mp (.get ky z ok) [x',i'])
   |_,_=>none)
  |_,_,_=>none
 |.mapUpdate t m x y =>
  match P.underlying t,aF m,aF x,aF y with
  |some (.map kt _),some m',some x',some y'=>(match pK P kt with
   |some ky=>some (.mp (.put ky) [m',x',y'])
   |none=>none)
  |_,_,_,_=>none
 |.insert t m x y =>
  match P.underlying t,aF m,aF x,aF y with
  |some (.map kt _),some m',some x',some y'=>(match pK P kt with
   |some ky=>some (.mp (.put ky) [m',x',y'])
   |none=>none)
  |_,_,_,_=>none
 |_=>none
def K.makes:K→Bool
 |.ft .. => true
 |.pq _=>true
 |_=>false
def K.Mj:K→Bool
 |.q9 .. => true
 |_=>false
def wh(P:Program)(a:jq)(n b7:Nat)(ops:Array Oper)(lI:Bool)(i:Nat)(o:Oper):Option Op :=
 match kC P a ops (b7*1000+i) o with
 |some k =>
  match(match o.guard with
   |none=>some none
   |some (j,b)=>match(ops[j]?).bind (·.dst)with
    |some d=>some (some (d,b))
    |none=>none),(match o.dst with | some d=>decide (d<n) | none=>true)with
  |some g,true=>if(match o.dst with | some d => !(a.bH.contains d) || (k.makes && o.guard.isNone) | none => !k.makes) && (!k.Mj || o.dst.isNone)then some {dst:=o.dst,mL:=g,lI,k }else none
  |_,_=>none
 |none=>none
def sn(P:Program)(a:jq)(n b7:Nat)(ops:Array Oper)(tail:Nat):Nat→List Oper→Option (List Op)
 |_,[]=>some []
 |i,o::r=>match wh P a n b7 ops (decide (i<tail) && !(a.kp.contains (b7*1000+i))) i o,sn P a n b7 ops tail (i+1) r with
  |some x,some xs=>some (x::xs)
  |_,_=>none
def Mo.calm:Mo→Bool
 |.get .. => true
 |.len=>true
 |.Hu=>true
 |_=>false
def K.calm:K→Bool
 |.st .. => false
 |.wA .. => false
 |.app .. => false
 |.zd .. => false
 |.E4 .. => false
 |.Fc _=>false
 |.ln _=>false
 |.ui .. => false
 |.um _=>false
 |.E7 .. => false
 |.ze .. => false
 |.Gt .. => false
 |.ft nb _=>nb.isEmpty
 |.q9 _ nb _ _ _=>nb.isEmpty
 |.mp o _=>o.calm
 |.z6 _=>false
 |.vy=>false
 |_=>true
def K.pure:K→Bool
 |.ld .. => false
 |.zi .. => false
 |.pX .. => false
 |.E9 .. => false
 |.E3 .. => false
 |.call .. => false
 |.mp .. => false
 |.me .. => false
 |k=>k.calm
def aM.tmps:aM→List Nat
 |.t n=>[n]
 |.c _=>[]
def K.tmps:K→List Nat
 |.mv x=>x.tmps
 |.ln _=>[]
 |.pick c a b=>c.tmps++a.tmps++b.tmps
 |.ui .. => []
 |.ft .. => []
 |.qR x=>x.tmps
 |.um x=>x.tmps
 |.E7 _ x=>x.tmps
 |.pq x=>x.tmps
 |.wG v _ _ a=>[v,a]
 |.q9 v _ _ a x=>[v,a]++x.tmps
 |.kR _ ps=>ps.flatMap fun p=>p.2.2.tmps
 |.sS _ _ _ ps=>ps.flatMap fun p=>p.2.2.tmps
 |.ze _ _ _ ps=>ps.flatMap fun p=>p.2.2.tmps
 |.ld _ _ a=>a.tmps
 |.HC _ _ a=>a.tmps
 |.zi _ _ a=>a.tmps
 |.Gj _ _ x=>x.tmps
 |.sV x=>x.tmps
 |.st _ _ a x=>a.tmps++x.tmps
 |.wA os _ a x=>a.tmps++x.tmps++os
 |.bin _ x y=>x.tmps++y.tmps
 |.eqv _ _ _ x y=>x.tmps++y.tmps
 |.un _ x=>x.tmps
 |.r8 _ x=>x.tmps
 |.yq _ xs ys=>xs.flatMap aM.tmps++ys.flatMap aM.tmps
 |.Gt _ _ _ l c=>l.tmps++c.tmps
 |.HW _ x lo hi m=>x.tmps++(lo.map aM.tmps).getD []++(hi.map aM.tmps).getD []++(m.map aM.tmps).getD []
 |.pX _ _ x lo hi=>x.tmps++(lo.map aM.tmps).getD []++(hi.map aM.tmps).getD []
 |.qT _ x=>x.tmps
 |.Ek _ _ _ x=>x.tmps
 |.vV _ _ x i=>x.tmps++i.tmps
 |.oI _ x i=>x.tmps++i.tmps
 |.oJ _ _ _ x i=>x.tmps++i.tmps
 |.q5 x=>x.tmps
 |.uC _=>[]
 |.mn x y=>x.tmps++y.tmps
 |.mx x y=>x.tmps++y.tmps
 |.app _ _ s x=>s.tmps++x.tmps
 |.zd os _ _ s x=>s.tmps++x.tmps++os
 |.E4 _ _ s x=>s.tmps++x.tmps
 |.E9 _ _ x=>x.tmps
 |.Fc x=>x.tmps
 |.Hr=>[]
 |.E3 _ _ v x=>v::x.tmps
 |.ext x _=>x.tmps
 |.oA _ xs=>xs.flatMap aM.tmps
 |.mp _ xs=>xs.flatMap aM.tmps
 |.me _ xs=>xs.flatMap aM.tmps
 |.HH _ x=>x.tmps
 |.Ho _ _ x=>x.tmps
 |.Gi _ x=>x.tmps
 |.z6 x=>x.tmps
 |.vy=>[]
 |.call _ f xs=>f.tmps++xs.flatMap aM.tmps
def Op.nJ(o:Op):List Nat:=(match o.mL with | some (g,_)=>[g] | none=>[])++o.k.tmps
def cX:List Oper→List Nat→List Nat
 |[],acc=>acc
 |o::r,acc=>cX r (acc++[o.after.toList.foldl (fun s e=>if Region.binds .any e then s ||| 2^e.on ||| acc.getD e.on 0 else s) 0])
def lB(bs:List Nat):Nat :=
 go bs.length
where
 go:Nat→Nat
  |0=>0
  |n+1=>if bs.getD n 0=2^n-1 then go n else n+1
def Op.defs(o:Op):List Nat:=o.dst.toList++(match o.k with | .q9 v _ _ _ _=>[v] | _=>[])
def Op.Ay(o p:Op):Bool :=
 o.defs.any (fun d=>p.defs.contains d || p.nJ.contains d) || o.nJ.any (fun d=>p.defs.contains d)
def Op.still(op:Op):Bool:=op.k.calm && op.lI
def Op.N7(o p:Op):Bool :=
 o.mL.isNone && p.mL.isNone &&
 match o.k,p.k with
 |.wA os _ _ _,.ld _ _ (.t m)=>os.contains m
 |.ld _ _ (.t m),.wA os _ _ _=>os.contains m
 |.wA os _ _ _,.wA _ _ (.t m) _=>os.contains m
 |.zd os _ _ _ _,.ld _ _ (.t m)=>os.contains m
 |.ld _ _ (.t _),.ui [] _=>true
 |.zd ..,.zi _ _ (.t _)=>true
 |_,_=>false
def Op.Ns(o p:Op):Bool :=
 match o,p with
 |⟨none,none,_,.q9 v [] _ a x⟩,⟨some d,none,_,.qT _ (.t m)⟩=>decide (m=v∧d≠v∧d≠a∧d ∉ x.tmps)
 |_,_=>false
def Op.free(o p:Op):Bool:=o.Ns p || (!(o.Ay p) && (o.still && p.still || o.k.pure || p.k.pure || o.N7 p))
def pt(bs:List Nat):Nat→List Op→Bool
 |_,[]=>true
 |i,o::r=>after i (i+1) o r && pt bs (i+1) r
where
 after (i:Nat):Nat→Op→List Op→Bool
  |_,_,[]=>true
  |j,o,p::r=>(o.free p || (bs.getD j 0).testBit i) && after i (j+1) o r
def ni:Nat→List Oper→Bool
 |_,[]=>true
 |i,o::r=>(o.after.toList.all fun e => !Region.binds .any e || decide (e.on<i)) && ni (i+1) r
def py(live:List Nat):Option Nat→List Op→bC
 |some j,xs=>match xs.drop j with
  |x::r => .yY live (xs.take j) x r
  |[] => .b7 live xs
 |none,xs => .b7 live xs
def uK(P:Program)(a:jq)(n:Nat)(id:Nat)(ops:Array Oper)(draw:Bool):Option bC :=
  if draw then
   let bs:=cX ops.toList []
   let tail:=lB bs
   match sn P a n id ops tail 0 ops.toList with
   |some xs=>if pt bs 0 (xs.take tail) && ni 0 ops.toList && xs.all (fun x=>x.k != .vy)then some (py (look id [] a.live) ((look id none a.eO).filter fun j=>decide (tail≤j)) xs)else none
   |none=>none
  else(sn P a n id ops 0 0 ops.toList).map (py (look id [] a.live) (look id none a.eO))
def kn(c:bC):List Nat→bC
 |[]=>c
 |vs => .seq (.bB vs) c
def lU:bC:=.b7 [] [⟨none,none,false,.Gj false false (.c .undef)⟩]
def sb:Code→Option (aM×List aM)
 |.region _ ops false =>
  match ops.toList with
  |[o]=>(match o.op,o.dst,o.guard with
   |.defer c,none,none=>(match c.callee with
    |.value f=>(match aF f,jv c.args.toList with
     |some f',some xs=>some (f',xs)
     |_,_=>none)
    |_=>none)
   |_,_,_=>none)
  |_=>none
 |_=>none
def vS(P:Program)(a:jq)(n:Nat):Code→Option (bC×aM×List aM)
 |.region id ops false =>
  match ops.toList with
  |[m,o]=>(match o.op,o.dst,o.guard,m.dst with
   |.defer c,none,none,some t=>(match c.callee with
    |.value f=>(match wh P a n id ops false 0 m,aF f,jv c.args.toList with
     |some op,some f',some xs=>if op.k=.vy then none else some (.b7 (t::(xs.flatMap aM.tmps++look id [] a.live)) [op],f',xs)
     |_,_,_=>none)
    |_=>none)
   |_,_,_,_=>none)
  |_=>none
 |_=>none
def uF(a:jq)(n:Nat):Code→Option (Nat×Nat×Nat)
 |.loop (.seq (.region _ ops false) _) =>
  match ops.toList with
  |[o,p]=>(match o.op,o.dst,o.guard,p.op,p.dst,p.guard with
   |.next (.tmp it) false,some nx,none,.extract (.tmp nx') 0,some ok,none =>
    if nx'=nx∧nx<n∧ok<n∧nx≠ok∧nx ∉ a.bH∧ok ∉ a.bH then some (it,nx,ok)else none
   |_,_,_,_,_,_=>none)
  |_=>none
 |_=>none
def zx(a:jq)(n id:Nat)(x:Code)(x':bC):bC :=
 match uF a n x,x' with
 |some (it,nx,ok),.loop live _ (.seq _ c) => .cU live (.t it) nx ok id c .dY
 |_,x' => .aR id x'
def Ah(a:jq):Code→Bool
 |.region id ops _=>a.kF.contains (1000000+id) && decide (2<ops.size)
 |_=>false
def wu(P:Program)(a:jq)(n:Nat)(x:Code)(x' y':bC):bC :=
 match sb x with
 |some (f,xs) => .zf f xs y'
 |none =>
  match vS P a n x with
  |some (c,f,xs) => .seq c (.zf f xs y')
  |none =>
  match x,x' with
  |.seq _ (.block _ _),.seq p' (.cU live it nx ok b c .dY) => .seq p' (.cU live it nx ok b c y')
  |_,_ => .seq x' (if Ah a x then .EF y' else y')
def pV(c:bC):bC:=match dw c with | some _=>lU | none => .seq .dY c
def aP(P:Program)(a:jq)(n:Nat)(aR:Nat):Code→Option bC
 |.skip=>some .dY
 |.region id ops draw=>match uK P a n id ops draw with
  |some c=>some (kn c (look id [] a.fz))
  |none=>some lU
 |.seq x y=>match aP P a n aR x,aP P a n aR y with
  |some x',some y'=>some (wu P a n x x' y')
  |_,_=>none
 |.cond c x y=>match aF c,aP P a n aR x,aP P a n aR y with
  |some c',some x',some y'=>some (.ite c' x' y')
  |_,_,_=>none
 |.block id x=>(aP P a n id x).map (zx a n id x)
 |.loop x=>(aP P a n aR x).map (.loop (look aR [] a.Eo) (a.kF.contains aR))
 |.rangeFunc f ps x y=>match aF f,aP P a n aR x,aP P a n aR y with
  |some f',some x',some y'=>if ps.toList.all (fun t=>decide (t<n) && !(a.bH.contains t))then some (.tS (look aR [] a.Eo) f' ps.toList x' y')else none
  |_,_,_=>none
 |.exit id=>some (.exit id)
 |.ret=>some .ret
 |.scope x=>(aP P a n aR x).map pV
 |.label _=>some .dY
 |_=>some lU
def Ae(P:Program)(a:jq):ResultVar→Option o7
 |.tmp t=>some (.t t)
 |.cell x t=>match iU P t,bx P t with
  |some g,some s=>if(g || s == 1) && decide (0<s)then some (if a.bH.contains x then .v x g s else .c x g s)else none
  |_,_=>none
def oB(P:Program)(a:jq):List ResultVar→Option (List o7)
 |[]=>some []
 |r::rs=>match Ae P a r,oB P a rs with
  |some x,some xs=>some (x::xs)
  |_,_=>none
def MJ(P:Program)(a:jq)(f:Func):Option Fn :=
 match f.body with
 |some c=>match aP P a f.ntmps 0 c,oB P a f.results.toList with
  |some c',some rs=>if f.params.size+f.nfree≤f.ntmps then some {uH:=f.params.size+f.nfree,res:=rs,body:=c' }else none
  |_,_=>none
 |none=>none
def Rd(w:World)(b o:Nat)(vs:List Value):Prop:=∀(j:Nat) x,vs[j]?=some x→w.cell? ⟨b,o+j,none⟩=some x
theorem Rd.take{w:World}{b o:Nat}{vs:List Value}(h:Rd w b o vs)(n:Nat):Rd w b o (vs.take n):=fun j x e=>h j x (by
 rw[cq]at e;split at e<;>simp_all)
theorem Rd.drop{w:World}{b o:Nat}{vs:List Value}(h:Rd w b o vs)(n:Nat):Rd w b (o+n) (vs.drop n):=fun j x e=>by
 have:=h (n+j) x (by rw[dZ]at e;exact e);rw[show o+n+j=o+(n+j)from by omega];exact this
theorem add_eq(b o n:Nat):Addr.add ⟨b,o,none⟩ n=⟨b,o+n,none⟩:=by
 unfold Addr.add;split
 ·subst_vars;rfl
 ·rfl
section types
variable {P:Program} {t:TypeId}
theorem run_typeInfo{i:TypeInfo}(h:P.info? t=some i)(w:World):(typeInfo t).run P w=.ok i w:=by
 simp[typeInfo,h]
theorem run_sizeOf{s:Nat}(h:bx P t=some s)(w:World):(sizeOf t).run P w=.ok s w:=by
 simp only[bx,ab]at h;obtain⟨i,hi,rfl⟩:=h;simp[sizeOf,run_typeInfo hi]
theorem aB{d:TypeDesc}(h:P.underlying t=some d)(w:World):(underlying t).run P w=.ok d w:=by
 simp[underlying,h]
theorem mq{b:Bool}(h:iU P t=some b)(w:World):(isAgg t).run P w=.ok b w:=by
 unfold iU at h;cases hu:P.underlying t with
 |none=>simp[hu]at h
 |some d =>
  rw[hu]at h;simp only[isAgg,Sem.run_bind,aB hu,Result.andThen_ok];cases d<;>simp_all
theorem cI{z:Value}{i:TypeInfo}(h:P.info? t=some i)(hz:i.zero=some z)(w:World):(zeroValue t).run P w=.ok z w:=by
 simp[zeroValue,run_typeInfo h,hz]
end types
theorem ub(g:G){v:Value}{d:D}(h:Ap v=some d):aI g d v∧v.oneCell'=true:=by
 unfold Ap at h;split at h<;>first | (cases h;exact⟨by constructor,rfl⟩) | cases h
theorem pv(g:G){vs:List Value}{ds:List D}(h:nS vs=some ds):aH g ds vs∧∀x∈vs,x.oneCell'=true:=by
 induction vs generalizing ds with
 |nil=>simp only[nS,ad]at h;subst h;exact⟨.nil,by simp⟩
 |cons v vs ih =>
  simp only[nS]at h;split at h
  ·rename_i d ds' h1 h2;cases h;obtain⟨h3,h4⟩:=ih h2;obtain⟨h5,h6⟩:=ub g h1;exact⟨.cons _ _ _ _ h5 h3,by simp only[aJ];rintro x (rfl | hx);exact h6;exact h4 x hx⟩
  ·cases h
theorem px(g:G){v:Value}{d:D}(h:r7 v=some d):aI g d v:=by
 unfold r7 at h;split at h
 ·rename_i cs;simp only[ab]at h;obtain⟨ds,h1,rfl⟩:=h;obtain⟨h2,h3⟩:=pv g h1;exact .agg ds cs h2 h3
 ·exact(ub g h).1
theorem ir{P:Program}{t:TypeId}(g:G){z:List D}(h:gM P t=some z):∃i v,P.info? t=some i∧i.zero=some v∧aH g z v.cells.toList∧∀x∈v.cells.toList,x.oneCell'=true:=by
 unfold gM at h;split at h
 ·rename_i i hi;split at h
  ·rename_i v hv;obtain⟨h2,h3⟩:=pv g h;exact⟨i,v,hi,hv,h2,h3⟩
  ·cases h
 ·cases h
theorem l7{P:Program}{t:TypeId}{w:World}{b o sz:Nat}{ag:Bool}{vs:List Value}(hag:iU P t=some ag)(hsz:bx P t=some sz)(hone:(ag || sz == 1)=true)
  (hr:Rd w b o vs) (hlen:sz≤vs.length):
  ∃v,(loadVar t ⟨b,o,none⟩).run P w=.ok v w∧(if ag then v=.agg (vs.take sz).toArray else ∃x r,vs=x::r∧v=x):=by
 cases ag with
 |true =>
  have h1:(loadCells ⟨b,o,none⟩ sz).run P w=.ok (vs.take sz).toArray w:=by
   have:=run_loadCells_list (P:=P) w ⟨b,o,none⟩ (vs.take sz) (fun j v e=>by rw[add_eq];exact hr.take sz j v e);rwa[nK,Nat.min_eq_left hlen]at this
  exact⟨_,by simp[loadVar,mq hag,run_sizeOf hsz,h1],rfl⟩
 |false =>
  simp only[Bool.false_or,beq_iff_eq]at hone;subst hone;cases vs with
  |nil=>simp at hlen
  |cons x r =>
   have:=hr 0 x rfl;exact⟨x,by simp only[Nat.add_zero]at this;simp[loadVar,mq hag,this],x,r,rfl,rfl⟩
theorem jW{P:Program}{b:Nat}{el:TypeId}:∀(ps:List Value) (w:World) (o i:Nat) (c:Array Value),(∀x∈ps,x.oneCell'=true) →
  w.heap[b]?=some (.cells c el (0,0))→o+i+ps.length≤c.size →
  ∃w' c',(storeCells ⟨b,o,none⟩ ps i).run P w=.ok () w'∧w'.heap[b]?=some (.cells c' el (0,0))∧c'.size=c.size ∧
   (∀j,c'[j]?=if o+i≤j∧j<o+i+ps.length then ps[j-(o+i)]? else c[j]?) ∧
   (∀x,x≠b→w'.heap[x]?=w.heap[x]?)∧w'.heap.size=w.heap.size∧w'.os=w.os∧w'.tape=w.tape∧w'.output=w.output
 |[],w,o,i,c,_,hb,_=>⟨w,c,by simp[storeCells],hb,rfl,fun j=>by rw[if_neg (by simp only[bD];omega)],fun _ _=>rfl,rfl,rfl,rfl,rfl⟩
 |p::ps,w,o,i,c,h1,hb,hl=>by
  simp only[aZ]at hl;have hp:=h1 p (by simp);have hcell:w.cell? ⟨b,o+i,none⟩=some (c[o+i]'(by omega)):=by
   simp only[World.cell?,hb];simp
  have hfz:w.frozen? ⟨b,o+i,none⟩=false:=by simp[World.frozen?,hb]
  have hb1:(w.setCell ⟨b,o+i,none⟩ p).heap[b]?=some (.cells (c.setIfInBounds (o+i) p) el (0,0)):=by
   simp[World.setCell,fC,hb]
  obtain⟨w',c',hrun,hb',hs,hc,ho,hsz,e1,e2,e3⟩:=jW ps (w.setCell ⟨b,o+i,none⟩ p) o (i+1) (c.setIfInBounds (o+i) p) (fun x hx=>h1 x (by simp[hx])) hb1 (by simp;omega);refine⟨w',c',?_,hb',by simpa using hs,?_,?_,by simpa using hsz,e1,e2,e3⟩
  ·simp only[storeCells,Sem.run_bind,add_eq,run_store P w _ p .plain hp,hcell,hfz];simpa using hrun
  ·intro j;rw[hc j];by_cases hj:j=o+i
   ·subst hj;rw[if_neg (by omega),if_pos (by simp)];rw[Array.getElem?_setIfInBounds_self_of_lt (by omega)];simp
   ·by_cases hj2:o+(i+1)≤j∧j<o+(i+1)+ps.length
    ·rw[if_pos hj2,if_pos (by simp;omega)];rw[show j-(o+i)=(j-(o+(i+1)))+1 from by omega];simp
    ·rw[if_neg hj2,if_neg (by simp;omega)];rw[Array.getElem?_setIfInBounds_ne (by omega)]
  ·intro x hx;rw[ho x hx];simp only[World.setCell,fC];rw[if_neg (by simpa using fun e=>hx e.symm)]
theorem nG{P:Program}{t:TypeId}{w:World}{b o sz:Nat}{el:TypeId}{c:Array Value}{v:Value}(hsz:bx P t=some sz)(hv:v.cells.size=sz)
  (h1:∀x∈v.cells.toList,x.oneCell'=true) (hb:w.heap[b]?=some (.cells c el (0,0))) (hl:o+sz≤c.size):
  ∃w' c',(storeVar t ⟨b,o,none⟩ v).run P w=.ok () w'∧w'.heap[b]?=some (.cells c' el (0,0))∧c'.size=c.size ∧
   (∀j,c'[j]?=if o≤j∧j<o+sz then v.cells.toList[j-o]? else c[j]?) ∧
   (∀x,x≠b→w'.heap[x]?=w.heap[x]?)∧w'.heap.size=w.heap.size∧w'.os=w.os∧w'.tape=w.tape∧w'.output=w.output:=by
 obtain⟨w',c',hrun,rest⟩:=jW (P:=P) (b:=b) (el:=el) v.cells.toList w o 0 c h1 hb (by simp[hv];omega);refine⟨w',c',?_,?_⟩
 ·simp only[storeVar,Sem.run_bind,run_sizeOf hsz,Result.andThen_ok,hv];simpa using hrun
 ·simpa[hv]using rest
end Go.Abs
