import Derived.Test.YtcgippbplkagkaaGreatBase0
import GoSem.Core.Program
import GoSem.Core.Layout
import Derived.Laws.Build
import Derived.Test.YtcgippbplkagkaaGreatBase1
set_option linter.all false
namespace Go.Abs
open Go
structure nv where
 live:List (Nat×List Nat)
 Tm:List (Nat×List Nat)
 oE:List Nat
 KY:List Nat
 cn:List Nat
 nb:List (Nat×List (Nat×Nat))
 kp:List Nat
 fz:List (Nat×List Nat)
 jV:List Nat
 sx:List (Nat×Option (List Nat))
 eR:List (Nat×Option Nat):=[]
def look{α:Type}(n:Nat)(d:α):List (Nat×α)→α
 |[]=>d
 |(k,v)::r=>if k=n then v else look n d r
def Lp:Value→Option D
 |.bool b=>some (.bool b)
 |.int k n=>some (.int k n)
 |.string s=>some (.str s.data.toList)
 |.pointer none=>some .nd
 |.slice none 0 0=>some .bw
 |.nilFunc=>some .pO
 |.nilIface=>some .kL
 |.map none=>some .undef
 |_=>none
def vx:List Value→Option (List D)
 |[]=>some []
 |v::vs=>match Lp v,vx vs with
  |some d,some ds=>some (d::ds)
  |_,_=>none
def zT:Value→Option D
 |.agg cs=>(vx cs.toList).map .agg
 |v=>Lp v
def aW:Operand→Option ba
 |.tmp t=>some (.t t)
 |.const v=>(zT v).map .c
 |.func f=>some (.c (.fn f [] []))
 |.global _=>none
def om:List Operand→Option (List ba)
 |[]=>some []
 |x::xs=>match aW x,om xs with
  |some y,some ys=>some (y::ys)
  |_,_=>none
def oU:Option Operand→Option (Option ba)
 |none=>some none
 |some x=>(aW x).map some
def bX(P:Program)(t:TypeId):Option Nat:=(P.info? t).map (·.size)
def nw(P:Program)(t:TypeId):Option Bool :=
 match P.underlying t with
 |some (.struct _) | some (.array _ _)=>some true
 |some _=>some false
 |none=>none
def lE(P:Program)(t:TypeId):Option (List D) :=
 match P.info? t with
 |some i=>match i.zero with
  |some z=>vx z.cells.toList
  |none=>none
 |none=>none
def ru:Operand→Bool
 |.const (.slice none 0 0)=>true
 |_=>false
def mT(place:Nat→Option (Nat×Nat)):List (Nat×Operand)→Option (List (Nat×Nat×ba))
 |[]=>some []
 |(i,x)::r=>match place i,aW x,mT place r with
  |some (o,s),some y,some r'=>some ((o,s,y)::r')
  |_,_,_=>none
def rn(P:Program)(fs:Array Field)(i:Nat):Option (Nat×Nat) :=
 match fs[i]? with
 |some f=>(bX P f.type).map fun s=>(f.offset,s)
 |none=>none
def gY(P:Program):Nat→TypeId→Option (List (Option IntKind))
 |0,_=>none
 |d+1,t =>
  match P.underlying t with
  |some (.int k)=>some [some k]
  |some .bool=>some [none]
  |some (.struct fs)=>if P.stoodInHeld t then none else kindsF P (gY P d) 0 fs.toList
  |some (.array n e)=>match gY P d e with
   |some ks=>if bX P e == some ks.length && decide (0<ks.length)then some ((List.range n).flatMap fun _=>ks)else none
   |none=>none
  |_=>none
where
 kindsF (P:Program) (f:TypeId→Option (List (Option IntKind))) (o:Nat):List Field→Option (List (Option IntKind))
  |[]=>some []
  |x::r=>match f x.type with
   |some ks=>if x.name ≠ "_" ∧ x.offset=o∧bX P x.type=some ks.length∧0<ks.length then(kindsF P f (o+ks.length) r).map (ks ++ ·)else none
   |none=>none
def Xf(P:Program)(t:TypeId):Option D :=
 match P.info? t with
 |some i=>match i.zero with
  |some z=>zT z
  |none=>none
 |none=>none
def xO(P:Program)(t:TypeId):Option Ky :=
 match P.underlying t with
 |some .string=>some none
 |some (.int k)=>some (some (false,[some k]))
 |some (.struct fs) =>
  if fs.toList.all (fun f=>match P.underlying f.type with | some (.int _)=>true | some .bool=>true | _=>false)then
   (gY P 20 t).map fun ks=>some (true,ks)
  else none
 |_=>none
def Uv(P:Program)(b:BinOp)(t:TypeId)(x y:ba):Option K :=
 match gY P 20 t with
 |some ks=>if P.eqGuardType P.depth t then none else
  match b with
  |.eql=>(nw P t).map fun ag => .eqv ag ks false x y
  |.neq=>(nw P t).map fun ag => .eqv ag ks true x y
  |_=>none
 |none=>none
def wv(ops:Array Oper):Nat→Nat→Nat
 |0,t=>t
 |n+1,t =>
  match ops.toList.find? (fun o=>o.dst == some t)with
  |some o=>match o.op with
   |.fieldAddr _ (.tmp x) _=>wv ops n x
   |.indexAddr _ (.tmp x) _=>wv ops n x
   |_=>t
  |none=>t
def JO:Operand→Option Nat
 |.tmp t=>some t
 |_=>none
def JX(ps:Bool)(b:BinOp)(x:ba):Option K :=
 match b with
 |.eql=>some (.KT ps false x)
 |.neq=>some (.KT ps true x)
 |_=>none
def Jy:TypeDesc→Bool
 |.slice _=>true
 |.string=>true
 |_=>false
def kC(P:Program)(a:nv)(ops:Array Oper)(key:Nat)(o:Oper):Option K :=
 match o.op with
 |.move x=>(aW x).map .mv
 |.assign x =>
  match ru x,P.underlying o.type,o.dst with
  |true,some (.slice e),some d=>if a.KY.contains d then(bX P e).map .rC else(aW x).map .mv
  |_,_,_=>(aW x).map .mv
 |.pick c x y=>match aW c,aW x,aW y with
  |some c',some x',some y'=>some (.pick c' x' y')
  |_,_,_=>none
 |.alloc e=>match lE P e,o.dst with
  |some z,some d=>if a.kp.contains (2000000+key)then(match P.underlying e with
    |some (.struct fs)=>(match fs.toList with
     |[_,f]=>(match P.underlying f.type,z with
      |some (.slice b),[.nd,.bw]=>some (.mp (.o7 e b) [])
      |_,_=>none)
     |_=>none)
    |_=>none)else some (if a.cn.contains d then .fR (look key [] a.nb) z else .Ch (look key [] a.nb) z)
  |_,_=>none
 |.box _ x=>match aW x,o.dst with
  |some x',some d=>some (if a.cn.contains d then .xu x' else if a.KY.contains d then(match look key [] a.nb with | [] => .xr x' | nb => .JW nb x')else .yC x')
  |_,_=>none
 |.build t ps =>
  match P.underlying t,lE P t with
  |some (.struct fs),some z=>if fs.toList.all (fun f=>(bX P f.type).isSome)then(mT (rn P fs) ps.toList).map (.o7 z)else none
  |some (.array _ e),some z=>match bX P e with
   |some w=>(mT (fun i=>some (i*w,w)) ps.toList).map (.o7 z)
   |none=>none
  |_,_=>none
 |.buildSlice t n ps =>
  match P.underlying t with
  |some (.slice e) =>
   match bX P e,lE P e,o.dst with
   |some w,some z,some d =>
    if 0<w∧z.length=w∧n*w≤2^24 then
     (mT (fun i=>some (i*w,w)) ps.toList).map fun p =>
      let zs:=(List.range n).flatMap fun _=>z
      if n=0 && ps.isEmpty && a.kp.contains (1000000+key)then .Wn else if a.KY.contains d then .Fb n w zs p else .wH n w zs p
    else none
   |_,_,_=>none
  |_=>none
 |.load t x=>match nw P t,bX P t,aW x with
  |some g,some s,some (.t n)=>if(g || s == 1) && decide (0<s)then some (if a.cn.contains (wv ops 8 n)then .Ff (wv ops 8 n) g s n else if a.jV.contains (wv ops 8 n)then .AD g s (.t n)else if a.kp.contains (3000000+key)then .JZ g s (.t n)else .ld g s (.t n))else none
  |_,_,_=>none
 |.store t x y=>match bX P t,aW x,aW y with
  |some s,some (.t n),some y'=>some (if a.cn.contains (wv ops 8 n)then .wM (wv ops 8 n) (look key [] a.nb) s n y' else(match look key none a.sx with | some os => .E3 os s (.t n) y' | none => .st (look key [] a.nb) s (.t n) y'))
  |_,_,_=>none
 |.binOp b t x y _ =>
  match P.underlying t,aW x,aW y with
  |some (.int _),some x',some y'=>some (.bin b x' y')
  |some .bool,some x',some y'=>Uv P b t x' y'
  |some (.struct _),some x',some y'=>Uv P b t x' y'
  |some (.array _ _),some x',some y'=>Uv P b t x' y'
  |some .string,some x',some y'=>(match b with | .add=>some (.uA .Wc [x',y']) | .eql=>some (.uA (.seq false) [x',y']) | .neq=>some (.uA (.seq true) [x',y']) | _=>none)
  |some (.pointer _),some x',some (.c .nd)=>JX true b x'
  |some (.pointer el),some x',some y'=>if(P.info? el).isSome then(match b with | .eql=>some (.me (.peq false) [x',y']) | .neq=>some (.me (.peq true) [x',y']) | _=>none)else none
  |some (.slice _),some x',some (.c .bw)=>JX false b x'
  |some (.interface _),some x',some (.c .kL)=>(match b,y with | .eql,.const .nilIface=>some (.KS false x') | .neq,.const .nilIface=>some (.KS true x') | _,_=>none)
  |_,_,_=>none
 |.nilCheck x=>(aW x).map .uj
 |.unOp b _ x=>(aW x).map (.un b)
 |.convert s d x =>
  match P.underlying s,P.underlying d,aW x with
  |some (.int _),some (.int k),some x'=>some (.Fc k x')
  |some (.slice e),some .string,some x'=>(match P.underlying e,bX P e with | some (.int .u8),some 1=>some (.me .b2s [x']) | _,_=>none)
  |some .string,some (.slice e),some x'=>(match P.underlying e,bX P e with | some (.int .u8),some 1=>some (.me .s2b [x']) | _,_=>none)
  |some (.slice e),some (.slice _),some x'=>if s=d then(match P.underlying e with | some (.int .u8)=>some (.Ur x') | _=>none)else none
  |_,_,_=>none
 |.sliceToArrayPointer t x =>
  match P.underlying t,aW x with
  |some (.array n e),some x'=>(bX P e).map fun w => .me (.s2a n w) [x']
  |_,_=>none
 |.makeFunc (.func f) xs ys=>match om xs.toList,om ys.toList with
  |some xs',some ys'=>some (.wo f xs' ys')
  |_,_=>none
 |.makeSlice t x y =>
  match P.underlying t with
  |some (.slice e) =>
   match bX P e,(P.info? e).map (·.bytes),lE P e,aW x,aW y with
   |some w,some b,some z,some x',some y'=>if 0<w∧0<b then some (.Jl w b z x' y')else none
   |_,_,_,_,_=>none
  |_=>none
 |.slice t x lo hi mx =>
  match P.underlying t,aW x,oU lo,oU hi,oU mx with
  |some (.slice e),some x',some lo',some hi',some mx'=>(bX P e).map fun w => .Lf w x' lo' hi' mx'
  |some (.array n e),some x',some lo',some hi',some none=>(bX P e).map fun w => .CW n w x' lo' hi'
  |some .string,some x',some lo',some hi',some none=>some (.uA (.E1 lo'.isSome hi'.isSome) (x'::(lo'.toList++hi'.toList)))
  |_,_,_,_,_=>none
 |.fieldAddr s x i =>
  match P.underlying s,aW x with
  |some (.struct fs),some x' =>
   match rn P fs i with
   |some (off,sz)=>if 0<sz then some (.yG off x')else none
   |none=>none
  |_,_=>none
 |.field s x i =>
  match P.underlying s,aW x with
  |some (.struct fs),some x' =>
   match fs[i]? with
   |some f=>match nw P f.type,bX P f.type with
    |some g,some sz=>if g || sz == 1 then some (.Wu g f.offset sz x')else none
    |_,_=>none
   |none=>none
  |_,_=>none
 |.indexAddr t x i =>
  match P.underlying t,aW x,aW i with
  |some (.array n e),some x',some i'=>(bX P e).map fun w => .lH n w x' i'
  |some (.slice e),some x',some i'=>(bX P e).map fun w => .wI w x' i'
  |_,_,_=>none
 |.index t x i =>
  match P.underlying t,aW x,aW i with
  |some (.array n e),some x',some i'=>match nw P e,bX P e with
   |some g,some w=>if g || w == 1 then some (.Bp g n w x' i')else none
   |_,_=>none
  |some .string,some x',some i'=>some (.uA .sO [x',i'])
  |_,_,_=>none
 |.extract x i=>(aW x).map (.ext · i)
 |.call c =>
  match c.callee with
  |.value f=>match aW f,om c.args.toList with
   |some f',some xs=>some (.call (a.kp.contains key) f' xs)
   |_,_=>none
  |.builtin .len =>
   match c.argTypes.toList,c.args.toList with
   |t::_,x::_=>match P.underlying t,aW x with
    |some (.slice _),some x'=>some (.yK x')
    |some .string,some x'=>some (.uA .wL [x'])
    |some (.map _ _),some x'=>some (.mp .len [x'])
    |some (.array n _),_=>some (.CA n)
    |some (.pointer r),_=>(match P.underlying r with | some (.array n _)=>some (.CA n) | _=>none)
    |_,_=>none
   |_,_=>none
  |.builtin .recover=>some .CQ
  |.builtin .min=>match c.args.toList with
   |[x,y]=>(match aW x,aW y with | some x',some y'=>some (.mn x' y') | _,_=>none)
   |_=>none
  |.builtin .max=>match c.args.toList with
   |[x,y]=>(match aW x,aW y with | some x',some y'=>some (.mx x' y') | _,_=>none)
   |_=>none
  |.builtin .append =>
   match c.argTypes.toList,c.args.toList with
   |[t,u],[x,y]=>match P.underlying t,P.underlying u,aW x,aW y with
    |some (.slice e),some uu,some x',some y' =>
     if Jy uu=true then(match bX P e,(P.info? e).map (·.bytes),lE P e with
     |some w,some b,some z=>if 0<w∧0<b∧b≤2^20∧z.length=w then
       some (if ru x && !(o.dst.any a.KY.contains)then .Un w b y' else if a.kp.contains (1000000+key) && (JO x).isSome then .Uh w b ((JO x).getD 0) y' else if a.kp.contains key then .JV w b x' y' else(match look key none a.sx with | some os => .JU os w b x' y' | none => .app w b x' y'))else none
     |_,_,_=>none)else none
    |_,_,_,_=>none
   |_,_=>none
  |_=>none
 |.makeInterface t x=>if P.concrete t=true then(aW x).map (.To t)else none
 |.typeAssert x _ t ok =>
  match P.underlying t,aW x with
  |some (.interface _),_=>none
  |some _,some x'=>if ok then(Xf P t).map fun z => .Ll t (some z) x' else some (.Ll t none x')
  |_,_=>none
 |.panic x=>(aW x).map .Fg
 |.makeMap _ none=>some (.mp .make [])
 |.makeMap t (some (.const (.int _ _)))=>(match P.underlying t with | some (.map _ _)=>some (.mp .make []) | _=>none)
 |.range t x =>
  match P.underlying t,aW x with
  |some (.map _ _),some x'=>some (.mp .ZP [x'])
  |_,_=>none
 |.entry x=>(match aW x with
  |some x'=>some (.mp .Wq [x'])
  |none=>none)
 |.lookup t x i ok =>
  match P.underlying t,aW x,aW i with
  |some (.map kt et),some x',some i'=>(match xO P kt,Xf P et with
   |some ky,some z=>some (.mp (.get ky z ok) [x',i'])
   |_,_=>none)
  |_,_,_=>none
 |.mapUpdate t m x y =>
  match P.underlying t,aW m,aW x,aW y with
  |some (.map kt _),some m',some x',some y'=>(match xO P kt with
   |some ky=>some (.mp (.put ky) [m',x',y'])
   |none=>none)
  |_,_,_,_=>none
 |.insert t m x y =>
  match P.underlying t,aW m,aW x,aW y with
  |some (.map kt _),some m',some x',some y'=>(match xO P kt with
   |some ky=>some (.mp (.put ky) [m',x',y'])
   |none=>none)
  |_,_,_,_=>none
 |_=>none
def K.makes:K→Bool
 |.fR .. => true
 |.xu _=>true
 |_=>false
def K.aan:K→Bool
 |.wM .. => true
 |_=>false
def ET(P:Program)(a:nv)(n cL:Nat)(ops:Array Oper)(rU:Bool)(i:Nat)(o:Oper):Option Op :=
 match kC P a ops (cL*1000+i) o with
 |some k =>
  match(match o.guard with
   |none=>some none
   |some (j,b)=>match(ops[j]?).bind (·.dst)with
    |some d=>some (some (d,b))
    |none=>none),(match o.dst with | some d=>decide (d<n) | none=>true)with
  |some g,true=>if(match o.dst with | some d => !(a.cn.contains d) || (k.makes && o.guard.isNone) | none => !k.makes) && (!k.aan || o.dst.isNone)then some {dst:=o.dst,uf:=g,rU,k }else none
  |_,_=>none
 |none=>none
def Ae(P:Program)(a:nv)(n cL:Nat)(ops:Array Oper)(tail:Nat):Nat→List Oper→Option (List Op)
 |_,[]=>some []
 |i,o::r=>match ET P a n cL ops (decide (i<tail) && !(a.kp.contains (cL*1000+i))) i o,Ae P a n cL ops tail (i+1) r with
  |some x,some xs=>some (x::xs)
  |_,_=>none
def Mo.calm:Mo→Bool
 |.get .. => true
 |.len=>true
 |.Wq=>true
 |_=>false
def K.calm:K→Bool
 |.st .. => false
 |.E3 .. => false
 |.app .. => false
 |.JU .. => false
 |.JV .. => false
 |.Ur _=>false
 |.rC _=>false
 |.Ch .. => false
 |.xr _=>false
 |.JW .. => false
 |.Fb .. => false
 |.Jl .. => false
 |.fR nb _=>nb.isEmpty
 |.wM _ nb _ _ _=>nb.isEmpty
 |.mp o _=>o.calm
 |.Fg _=>false
 |.CQ=>false
 |_=>true
def K.pure:K→Bool
 |.ld .. => false
 |.JZ .. => false
 |.CW .. => false
 |.Un .. => false
 |.Uh .. => false
 |.call .. => false
 |.mp .. => false
 |.me .. => false
 |k=>k.calm
def ba.tmps:ba→List Nat
 |.t n=>[n]
 |.c _=>[]
def K.tmps:K→List Nat
 |.mv x=>x.tmps
 |.rC _=>[]
 |.pick c a b=>c.tmps++a.tmps++b.tmps
 |.Ch .. => []
 |.fR .. => []
 |.yC x=>x.tmps
 |.xr x=>x.tmps
 |.JW _ x=>x.tmps
 |.xu x=>x.tmps
 |.Ff v _ _ a=>[v,a]
 |.wM v _ _ a x=>[v,a]++x.tmps
 |.o7 _ ps=>ps.flatMap fun p=>p.2.2.tmps
 |.wH _ _ _ ps=>ps.flatMap fun p=>p.2.2.tmps
 |.Fb _ _ _ ps=>ps.flatMap fun p=>p.2.2.tmps
 |.ld _ _ a=>a.tmps
 |.AD _ _ a=>a.tmps
 |.JZ _ _ a=>a.tmps
 |.KT _ _ x=>x.tmps
 |.uj x=>x.tmps
 |.st _ _ a x=>a.tmps++x.tmps
 |.E3 os _ a x=>a.tmps++x.tmps++os
 |.bin _ x y=>x.tmps++y.tmps
 |.eqv _ _ _ x y=>x.tmps++y.tmps
 |.un _ x=>x.tmps
 |.Fc _ x=>x.tmps
 |.wo _ xs ys=>xs.flatMap ba.tmps++ys.flatMap ba.tmps
 |.Jl _ _ _ l c=>l.tmps++c.tmps
 |.Lf _ x lo hi m=>x.tmps++(lo.map ba.tmps).getD []++(hi.map ba.tmps).getD []++(m.map ba.tmps).getD []
 |.CW _ _ x lo hi=>x.tmps++(lo.map ba.tmps).getD []++(hi.map ba.tmps).getD []
 |.yG _ x=>x.tmps
 |.Wu _ _ _ x=>x.tmps
 |.lH _ _ x i=>x.tmps++i.tmps
 |.wI _ x i=>x.tmps++i.tmps
 |.Bp _ _ _ x i=>x.tmps++i.tmps
 |.yK x=>x.tmps
 |.CA _=>[]
 |.mn x y=>x.tmps++y.tmps
 |.mx x y=>x.tmps++y.tmps
 |.app _ _ s x=>s.tmps++x.tmps
 |.JU os _ _ s x=>s.tmps++x.tmps++os
 |.JV _ _ s x=>s.tmps++x.tmps
 |.Un _ _ x=>x.tmps
 |.Ur x=>x.tmps
 |.Wn=>[]
 |.Uh _ _ v x=>v::x.tmps
 |.ext x _=>x.tmps
 |.uA _ xs=>xs.flatMap ba.tmps
 |.mp _ xs=>xs.flatMap ba.tmps
 |.me _ xs=>xs.flatMap ba.tmps
 |.To _ x=>x.tmps
 |.Ll _ _ x=>x.tmps
 |.KS _ x=>x.tmps
 |.Fg x=>x.tmps
 |.CQ=>[]
 |.call _ f xs=>f.tmps++xs.flatMap ba.tmps
def Op.vh(o:Op):List Nat:=(match o.uf with | some (g,_)=>[g] | none=>[])++o.k.tmps
def ez:List Oper→List Nat→List Nat
 |[],acc=>acc
 |o::r,acc=>ez r (acc++[o.after.toList.foldl (fun s e=>if Region.binds .any e then s ||| 2^e.on ||| acc.getD e.on 0 else s) 0])
def rL(bs:List Nat):Nat :=
 go bs.length
where
 go:Nat→Nat
  |0=>0
  |n+1=>if bs.getD n 0=2^n-1 then go n else n+1
def Op.defs(o:Op):List Nat:=o.dst.toList++(match o.k with | .wM v _ _ _ _=>[v] | _=>[])
def Op.Ly(o p:Op):Bool :=
 o.defs.any (fun d=>p.defs.contains d || p.vh.contains d) || o.vh.any (fun d=>p.defs.contains d)
def Op.still(op:Op):Bool:=op.k.calm && op.rU
def Op.far(o p:Op):Bool :=
 o.uf.isNone && p.uf.isNone &&
 match o.k,p.k with
 |.E3 os _ _ _,.ld _ _ (.t m)=>os.contains m
 |.ld _ _ (.t m),.E3 os _ _ _=>os.contains m
 |.E3 os _ _ _,.E3 _ _ (.t m) _=>os.contains m
 |.JU os _ _ _ _,.ld _ _ (.t m)=>os.contains m
 |.ld _ _ (.t _),.Ch [] _=>true
 |.JU ..,.JZ _ _ (.t _)=>true
 |_,_=>false
def Op.adr(o p:Op):Bool :=
 match o,p with
 |⟨none,none,_,.wM v [] _ a x⟩,⟨some d,none,_,.yG _ (.t m)⟩=>decide (m=v∧d≠v∧d≠a∧d ∉ x.tmps)
 |_,_=>false
def Op.free(o p:Op):Bool:=o.adr p || (!(o.Ly p) && (o.still && p.still || o.k.pure || p.k.pure || o.far p))
def xx(bs:List Nat):Nat→List Op→Bool
 |_,[]=>true
 |i,o::r=>after i (i+1) o r && xx bs (i+1) r
where
 after (i:Nat):Nat→Op→List Op→Bool
  |_,_,[]=>true
  |j,o,p::r=>(o.free p || (bs.getD j 0).testBit i) && after i (j+1) o r
def uM:Nat→List Oper→Bool
 |_,[]=>true
 |i,o::r=>(o.after.toList.all fun e => !Region.binds .any e || decide (e.on<i)) && uM (i+1) r
def xC(live:List Nat):Option Nat→List Op→bQ
 |some j,xs=>match xs.drop j with
  |x::r => .wN live (xs.take j) x r
  |[] => .cL live xs
 |none,xs => .cL live xs
def CS(P:Program)(a:nv)(n:Nat)(id:Nat)(ops:Array Oper)(draw:Bool):Option bQ :=
  if draw then
   let bs:=ez ops.toList []
   let tail:=rL bs
   match Ae P a n id ops tail 0 ops.toList with
   |some xs=>if xx bs 0 (xs.take tail) && uM 0 ops.toList && xs.all (fun x=>x.k != .CQ)then some (xC (look id [] a.live) ((look id none a.eR).filter fun j=>decide (tail≤j)) xs)else none
   |none=>none
  else(Ae P a n id ops 0 0 ops.toList).map (xC (look id [] a.live) (look id none a.eR))
def pD(c:bQ):List Nat→bQ
 |[]=>c
 |vs => .seq (.cb vs) c
def su:bQ:=.cL [] [⟨none,none,false,.KT false false (.c .undef)⟩]
def zV:Code→Option (ba×List ba)
 |.region _ ops false =>
  match ops.toList with
  |[o]=>(match o.op,o.dst,o.guard with
   |.defer c,none,none=>(match c.callee with
    |.value f=>(match aW f,om c.args.toList with
     |some f',some xs=>some (f',xs)
     |_,_=>none)
    |_=>none)
   |_,_,_=>none)
  |_=>none
 |_=>none
def Ey(P:Program)(a:nv)(n:Nat):Code→Option (bQ×ba×List ba)
 |.region id ops false =>
  match ops.toList with
  |[m,o]=>(match o.op,o.dst,o.guard,m.dst with
   |.defer c,none,none,some t=>(match c.callee with
    |.value f=>(match ET P a n id ops false 0 m,aW f,om c.args.toList with
     |some op,some f',some xs=>if op.k=.CQ then none else some (.cL (t::(xs.flatMap ba.tmps++look id [] a.live)) [op],f',xs)
     |_,_,_=>none)
    |_=>none)
   |_,_,_,_=>none)
  |_=>none
 |_=>none
def CC(a:nv)(n:Nat):Code→Option (Nat×Nat×Nat)
 |.loop (.seq (.region _ ops false) _) =>
  match ops.toList with
  |[o,p]=>(match o.op,o.dst,o.guard,p.op,p.dst,p.guard with
   |.next (.tmp it) false,some nx,none,.extract (.tmp nx') 0,some ok,none =>
    if nx'=nx∧nx<n∧ok<n∧nx≠ok∧nx ∉ a.cn∧ok ∉ a.cn then some (it,nx,ok)else none
   |_,_,_,_,_,_=>none)
  |_=>none
 |_=>none
def Kz(a:nv)(n id:Nat)(x:Code)(x':bQ):bQ :=
 match CC a n x,x' with
 |some (it,nx,ok),.loop live _ (.seq _ c) => .ew live (.t it) nx ok id c .ei
 |_,x' => .bu id x'
def Le(a:nv):Code→Bool
 |.region id ops _=>a.oE.contains (1000000+id) && decide (2<ops.size)
 |_=>false
def EX(P:Program)(a:nv)(n:Nat)(x:Code)(x' y':bQ):bQ :=
 match zV x with
 |some (f,xs) => .Ge f xs y'
 |none =>
  match Ey P a n x with
  |some (c,f,xs) => .seq c (.Ge f xs y')
  |none =>
  match x,x' with
  |.seq _ (.block _ _),.seq p' (.ew live it nx ok b c .ei) => .seq p' (.ew live it nx ok b c y')
  |_,_ => .seq x' (if Le a x then .TM y' else y')
def yd(c:bQ):bQ:=match eQ c with | some _=>su | none => .seq .ei c
def br(P:Program)(a:nv)(n:Nat)(bu:Nat):Code→Option bQ
 |.skip=>some .ei
 |.region id ops draw=>match CS P a n id ops draw with
  |some c=>some (pD c (look id [] a.fz))
  |none=>some su
 |.seq x y=>match br P a n bu x,br P a n bu y with
  |some x',some y'=>some (EX P a n x x' y')
  |_,_=>none
 |.cond c x y=>match aW c,br P a n bu x,br P a n bu y with
  |some c',some x',some y'=>some (.ite c' x' y')
  |_,_,_=>none
 |.block id x=>(br P a n id x).map (Kz a n id x)
 |.loop x=>(br P a n bu x).map (.loop (look bu [] a.Tm) (a.oE.contains bu))
 |.rangeFunc f ps x y=>match aW f,br P a n bu x,br P a n bu y with
  |some f',some x',some y'=>if ps.toList.all (fun t=>decide (t<n) && !(a.cn.contains t))then some (.Al (look bu [] a.Tm) f' ps.toList x' y')else none
  |_,_,_=>none
 |.exit id=>some (.exit id)
 |.ret=>some .ret
 |.scope x=>(br P a n bu x).map yd
 |.label _=>some .ei
 |_=>some su
def Lb(P:Program)(a:nv):ResultVar→Option uy
 |.tmp t=>some (.t t)
 |.cell x t=>match nw P t,bX P t with
  |some g,some s=>if(g || s == 1) && decide (0<s)then some (if a.cn.contains x then .v x g s else .c x g s)else none
  |_,_=>none
def wu(P:Program)(a:nv):List ResultVar→Option (List uy)
 |[]=>some []
 |r::rs=>match Lb P a r,wu P a rs with
  |some x,some xs=>some (x::xs)
  |_,_=>none
def fnC(P:Program)(a:nv)(f:Func):Option Fn :=
 match f.body with
 |some c=>match br P a f.ntmps 0 c,wu P a f.results.toList with
  |some c',some rs=>if f.params.size+f.nfree≤f.ntmps then some {CF:=f.params.size+f.nfree,res:=rs,body:=c' }else none
  |_,_=>none
 |none=>none
def Rd(w:World)(b o:Nat)(vs:List Value):Prop:=∀(j:Nat) x,vs[j]?=some x→w.cell? ⟨b,o+j,none⟩=some x
theorem Rd.take{w:World}{b o:Nat}{vs:List Value}(h:Rd w b o vs)(n:Nat):Rd w b o (vs.take n):=fun j x e=>h j x (by
 rw[bZ]at e;split at e<;>simp_all)
theorem Rd.drop{w:World}{b o:Nat}{vs:List Value}(h:Rd w b o vs)(n:Nat):Rd w b (o+n) (vs.drop n):=fun j x e=>by
 have:=h (n+j) x (by rw[eG]at e;exact e);rw[show o+n+j=o+(n+j)from by omega];exact this
theorem add_eq(b o n:Nat):Addr.add ⟨b,o,none⟩ n=⟨b,o+n,none⟩:=by
 unfold Addr.add;split
 ·subst_vars;rfl
 ·rfl
section types
variable {P:Program} {t:TypeId}
theorem run_typeInfo{i:TypeInfo}(h:P.info? t=some i)(w:World):(typeInfo t).run P w=.ok i w:=by
 simp[typeInfo,h]
theorem run_sizeOf{s:Nat}(h:bX P t=some s)(w:World):(sizeOf t).run P w=.ok s w:=by
 simp only[bX,ab]at h;obtain⟨i,hi,rfl⟩:=h;simp[sizeOf,run_typeInfo hi]
theorem aQ{d:TypeDesc}(h:P.underlying t=some d)(w:World):(underlying t).run P w=.ok d w:=by
 simp[underlying,h]
theorem ti{b:Bool}(h:nw P t=some b)(w:World):(isAgg t).run P w=.ok b w:=by
 unfold nw at h;cases hu:P.underlying t with
 |none=>simp[hu]at h
 |some d =>
  rw[hu]at h;simp only[isAgg,Sem.run_bind,aQ hu,Result.andThen_ok];cases d<;>simp_all
theorem dQ{z:Value}{i:TypeInfo}(h:P.info? t=some i)(hz:i.zero=some z)(w:World):(zeroValue t).run P w=.ok z w:=by
 simp[zeroValue,run_typeInfo h,hz]
end types
theorem BV(g:G){v:Value}{d:D}(h:Lp v=some d):a8 g d v∧v.oneCell'=true:=by
 unfold Lp at h;split at h<;>first | (cases h;exact⟨by constructor,rfl⟩) | cases h
theorem xz(g:G){vs:List Value}{ds:List D}(h:vx vs=some ds):aY g ds vs∧∀x∈vs,x.oneCell'=true:=by
 induction vs generalizing ds with
 |nil=>simp only[vx,ae]at h;subst h;exact⟨.nil,by simp⟩
 |cons v vs ih =>
  simp only[vx]at h;split at h
  ·rename_i d ds' h1 h2;cases h;obtain⟨h3,h4⟩:=ih h2;obtain⟨h5,h6⟩:=BV g h1;exact⟨.cons _ _ _ _ h5 h3,by simp only[bj];rintro x (rfl | hx);exact h6;exact h4 x hx⟩
  ·cases h
theorem xB(g:G){v:Value}{d:D}(h:zT v=some d):a8 g d v:=by
 unfold zT at h;split at h
 ·rename_i cs;simp only[ab]at h;obtain⟨ds,h1,rfl⟩:=h;obtain⟨h2,h3⟩:=xz g h1;exact .agg ds cs h2 h3
 ·exact(BV g h).1
theorem mw{P:Program}{t:TypeId}(g:G){z:List D}(h:lE P t=some z):∃i v,P.info? t=some i∧i.zero=some v∧aY g z v.cells.toList∧∀x∈v.cells.toList,x.oneCell'=true:=by
 unfold lE at h;split at h
 ·rename_i i hi;split at h
  ·rename_i v hv;obtain⟨h2,h3⟩:=xz g h;exact⟨i,v,hi,hv,h2,h3⟩
  ·cases h
 ·cases h
theorem sN{P:Program}{t:TypeId}{w:World}{b o sz:Nat}{ag:Bool}{vs:List Value}(hag:nw P t=some ag)(hsz:bX P t=some sz)(hone:(ag || sz == 1)=true)
  (hr:Rd w b o vs) (hlen:sz≤vs.length):
  ∃v,(loadVar t ⟨b,o,none⟩).run P w=.ok v w∧(if ag then v=.agg (vs.take sz).toArray else ∃x r,vs=x::r∧v=x):=by
 cases ag with
 |true =>
  have h1:(loadCells ⟨b,o,none⟩ sz).run P w=.ok (vs.take sz).toArray w:=by
   have:=run_loadCells_list (P:=P) w ⟨b,o,none⟩ (vs.take sz) (fun j v e=>by rw[add_eq];exact hr.take sz j v e);rwa[bO,Nat.min_eq_left hlen]at this
  exact⟨_,by simp[loadVar,ti hag,run_sizeOf hsz,h1],rfl⟩
 |false =>
  simp only[Bool.false_or,beq_iff_eq]at hone;subst hone;cases vs with
  |nil=>simp at hlen
  |cons x r =>
   have:=hr 0 x rfl;exact⟨x,by simp only[Nat.add_zero]at this;simp[loadVar,ti hag,this],x,r,rfl,rfl⟩
theorem oY{P:Program}{b:Nat}{el:TypeId}:∀(ps:List Value) (w:World) (o i:Nat) (c:Array Value),(∀x∈ps,x.oneCell'=true) →
  w.heap[b]?=some (.cells c el (0,0))→o+i+ps.length≤c.size →
  ∃w' c',(storeCells ⟨b,o,none⟩ ps i).run P w=.ok () w'∧w'.heap[b]?=some (.cells c' el (0,0))∧c'.size=c.size ∧
   (∀j,c'[j]?=if o+i≤j∧j<o+i+ps.length then ps[j-(o+i)]? else c[j]?) ∧
   (∀x,x≠b→w'.heap[x]?=w.heap[x]?)∧w'.heap.size=w.heap.size∧w'.os=w.os∧w'.tape=w.tape∧w'.output=w.output
 |[],w,o,i,c,_,hb,_=>⟨w,c,by simp[storeCells],hb,rfl,fun j=>by rw[if_neg (by simp only[ch];omega)],fun _ _=>rfl,rfl,rfl,rfl,rfl⟩
 |p::ps,w,o,i,c,h1,hb,hl=>by
  simp only[bq]at hl;have hp:=h1 p (by simp);have hcell:w.cell? ⟨b,o+i,none⟩=some (c[o+i]'(by omega)):=by
   simp only[World.cell?,hb];simp
  have hfz:w.frozen? ⟨b,o+i,none⟩=false:=by simp[World.frozen?,hb]
  have hb1:(w.setCell ⟨b,o+i,none⟩ p).heap[b]?=some (.cells (c.setIfInBounds (o+i) p) el (0,0)):=by
   simp[World.setCell,kc,hb]
  obtain⟨w',c',hrun,hb',hs,hc,ho,hsz,e1,e2,e3⟩:=oY ps (w.setCell ⟨b,o+i,none⟩ p) o (i+1) (c.setIfInBounds (o+i) p) (fun x hx=>h1 x (by simp[hx])) hb1 (by simp;omega);refine⟨w',c',?_,hb',by simpa using hs,?_,?_,by simpa using hsz,e1,e2,e3⟩
  ·simp only[storeCells,Sem.run_bind,add_eq,run_store P w _ p .plain hp,hcell,hfz];simpa using hrun
  ·intro j;rw[hc j];by_cases hj:j=o+i
   ·subst hj;rw[if_neg (by omega),if_pos (by simp)];rw[Array.getElem?_setIfInBounds_self_of_lt (by omega)];simp
   ·by_cases hj2:o+(i+1)≤j∧j<o+(i+1)+ps.length
    ·rw[if_pos hj2,if_pos (by simp;omega)];rw[show j-(o+i)=(j-(o+(i+1)))+1 from by omega];simp
    ·rw[if_neg hj2,if_neg (by simp;omega)];rw[Array.getElem?_setIfInBounds_ne (by omega)]
  ·intro x hx;rw[ho x hx];simp only[World.setCell,kc];rw[if_neg (by simpa using fun e=>hx e.symm)]
theorem ve{P:Program}{t:TypeId}{w:World}{b o sz:Nat}{el:TypeId}{c:Array Value}{v:Value}(hsz:bX P t=some sz)(hv:v.cells.size=sz)
  (h1:∀x∈v.cells.toList,x.oneCell'=true) (hb:w.heap[b]?=some (.cells c el (0,0))) (hl:o+sz≤c.size):
  ∃w' c',(storeVar t ⟨b,o,none⟩ v).run P w=.ok () w'∧w'.heap[b]?=some (.cells c' el (0,0))∧c'.size=c.size ∧
   (∀j,c'[j]?=if o≤j∧j<o+sz then v.cells.toList[j-o]? else c[j]?) ∧
   (∀x,x≠b→w'.heap[x]?=w.heap[x]?)∧w'.heap.size=w.heap.size∧w'.os=w.os∧w'.tape=w.tape∧w'.output=w.output:=by
 obtain⟨w',c',hrun,rest⟩:=oY (P:=P) (b:=b) (el:=el) v.cells.toList w o 0 c h1 hb (by simp[hv];omega);refine⟨w',c',?_,?_⟩
 ·simp only[storeVar,Sem.run_bind,run_sizeOf hsz,Result.andThen_ok,hv];simpa using hrun
 ·simpa[hv]using rest
end Go.Abs
