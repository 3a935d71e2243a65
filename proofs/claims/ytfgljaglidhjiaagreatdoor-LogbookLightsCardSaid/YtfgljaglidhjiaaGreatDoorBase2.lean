import Derived.Test.YtfgljaglidhjiaaGreatDoorBase0
import GoSem.Core.Program
import GoSem.Core.Layout
import Derived.Laws.Build
import Derived.Test.YtfgljaglidhjiaaGreatDoorBase1
set_option linter.all false
namespace Go.Abs
open Go
structure bP where
 live:List (Nat×List Nat)
 aoV:List (Nat×List Nat)
 bA:List Nat
 ajq:List Nat
 eB:List Nat
 nb:List (Nat×List (Nat×Nat))
 kp:List Nat
 fz:List (Nat×List Nat)
 rk:List Nat
 sx:List (Nat×Option (List Nat))
 fX:List (Nat×Option Nat):=[]
def look{α:Type}(n:Nat)(d:α):List (Nat×α)→α
 |[]=>d
 |(k,v)::r=>if k=n then v else look n d r
def aj3:Value→Option D
 |.bool b=>some (.bool b)
 |.int k n=>some (.int k n)
 |.string s=>some (.str s.data.toList)
 |.pointer none=>some .xH
 |.slice none 0 0=>some .aG
 |.nilFunc=>some .iS
 |.nilIface=>some .pg
 |.map none=>some .undef
 |_=>none
def Hk:List Value→Option (List D)
 |[]=>some []
 |v::vs=>match aj3 v,Hk vs with
  |some d,some ds=>some (d::ds)
  |_,_=>none
def MN:Value→Option D
 |.agg cs=>(Hk cs.toList).map .agg
 |v=>aj3 v
def bH:Operand→Option bM
 |.tmp t=>some (.t t)
 |.const v=>(MN v).map .c
 |.func f=>some (.c (.fn f [] []))
 |.global _=>none
def wD:List Operand→Option (List bM)
 |[]=>some []
 |x::xs=>match bH x,wD xs with
  |some y,some ys=>some (y::ys)
  |_,_=>none
def xJ:Option Operand→Option (Option bM)
 |none=>some none
 |some x=>(bH x).map some
def dz(P:Program)(t:TypeId):Option Nat:=(P.info? t).map (·.size)
def uV(P:Program)(t:TypeId):Option Bool :=
 match P.underlying t with
 |some (.struct _) | some (.array _ _)=>some true
 |some _=>some false
 |none=>none
def rT(P:Program)(t:TypeId):Option (List D) :=
 match P.info? t with
 |some i=>match i.zero with
  |some z=>Hk z.cells.toList
  |none=>none
 |none=>none
def AM:Operand→Bool
 |.const (.slice none 0 0)=>true
 |_=>false
def ui(place:Nat→Option (Nat×Nat)):List (Nat×Operand)→Option (List (Nat×Nat×bM))
 |[]=>some []
 |(i,x)::r=>match place i,bH x,ui place r with
  |some (o,s),some y,some r'=>some ((o,s,y)::r')
  |_,_,_=>none
def AI(P:Program)(fs:Array Field)(i:Nat):Option (Nat×Nat) :=
 match fs[i]? with
 |some f=>(dz P f.type).map fun s=>(f.offset,s)
 |none=>none
def mI(P:Program):Nat→TypeId→Option (List (Option IntKind))
 |0,_=>none
 |d+1,t =>
  match P.underlying t with
  |some (.int k)=>some [some k]
  |some .bool=>some [none]
  |some (.struct fs)=>if P.stoodInHeld t then none else kindsF P (mI P d) 0 fs.toList
  |some (.array n e)=>match mI P d e with
   |some ks=>if dz P e == some ks.length && decide (0<ks.length)then some ((List.range n).flatMap fun _=>ks)else none
   |none=>none
  |_=>none
where
 kindsF (P:Program) (f:TypeId→Option (List (Option IntKind))) (o:Nat):List Field→Option (List (Option IntKind))
  |[]=>some []
  |x::r=>match f x.type with
   |some ks=>if x.name ≠ "_" ∧ x.offset=o∧dz P x.type=some ks.length∧0<ks.length then(kindsF P f (o+ks.length) r).map (ks ++ ·)else none
   |none=>none
def zvC(P:Program)(t:TypeId):Option D :=
 match P.info? t with
 |some i=>match i.zero with
  |some z=>MN z
  |none=>none
 |none=>none
def J8(P:Program)(t:TypeId):Option Ky :=
 match P.underlying t with
 |some .string=>some none
 |some (.int k)=>some (some (false,[some k]))
 |some (.struct fs) =>
  if fs.toList.all (fun f=>match P.underlying f.type with | some (.int _)=>true | some .bool=>true | _=>false)then
   (mI P 20 t).map fun ks=>some (true,ks)
  else none
 |_=>none
def eqC(P:Program)(b:BinOp)(t:TypeId)(x y:bM):Option K :=
 match mI P 20 t with
 |some ks=>if P.eqGuardType P.depth t then none else
  match b with
  |.eql=>(uV P t).map fun ag => .eqv ag ks false x y
  |.neq=>(uV P t).map fun ag => .eqv ag ks true x y
  |_=>none
 |none=>none
def Ii(ops:Array Oper):Nat→Nat→Nat
 |0,t=>t
 |n+1,t =>
  match ops.toList.find? (fun o=>o.dst == some t)with
  |some o=>match o.op with
   |.fieldAddr _ (.tmp x) _=>Ii ops n x
   |.indexAddr _ (.tmp x) _=>Ii ops n x
   |_=>t
  |none=>t
def ah1:Operand→Option Nat
 |.tmp t=>some t
 |_=>none
def isC(ps:Bool)(b:BinOp)(x:bM):Option K :=
 match b with
 |.eql=>some (.Vn ps false x)
 |.neq=>some (.Vn ps true x)
 |_=>none
def ahB:TypeDesc→Bool
 |.slice _=>true
 |.string=>true
 |_=>false
def kC(P:Program)(a:bP)(ops:Array Oper)(key:Nat)(o:Oper):Option K :=
 match o.op with
 |.move x=>(bH x).map .mv
 |.assign x =>
  match AM x,P.underlying o.type,o.dst with
  |true,some (.slice e),some d=>if a.ajq.contains d then(dz P e).map .pB else(bH x).map .mv
  |_,_,_=>(bH x).map .mv
 |.pick c x y=>match bH c,bH x,bH y with
  |some c',some x',some y'=>some (.pick c' x' y')
  |_,_,_=>none
 |.alloc e=>match rT P e,o.dst with
  |some z,some d=>if a.kp.contains (2000000+key)then(match P.underlying e with
    |some (.struct fs)=>(match fs.toList with
     |[_,f]=>(match P.underlying f.type,z with
      |some (.slice b),[.xH,.aG]=>some (.mp (.lK e b) [])
      |_,_=>none)
     |_=>none)
    |_=>none)else some (if a.eB.contains d then .eJ (look key [] a.nb) z else .K5 (look key [] a.nb) z)
  |_,_=>none
 |.box _ x=>match bH x,o.dst with
  |some x',some d=>some (if a.eB.contains d then .Hj x' else if a.ajq.contains d then(match look key [] a.nb with | [] => .K7 x' | nb => .bxn nb x')else .K6 x')
  |_,_=>none
 |.build t ps =>
  match P.underlying t,rT P t with
  |some (.struct fs),some z=>if fs.toList.all (fun f=>(dz P f.type).isSome)then(ui (AI P fs) ps.toList).map (.lK z)else none
  |some (.array _ e),some z=>match dz P e with
   |some w=>(ui (fun i=>some (i*w,w)) ps.toList).map (.lK z)
   |none=>none
  |_,_=>none
 |.buildSlice t n ps =>
  match P.underlying t with
  |some (.slice e) =>
   match dz P e,rT P e,o.dst with
   |some w,some z,some d =>
    if 0<w∧z.length=w∧n*w≤2^24 then
     (ui (fun i=>some (i*w,w)) ps.toList).map fun p =>
      let zs:=(List.range n).flatMap fun _=>z
      if n=0 && ps.isEmpty && a.kp.contains (1000000+key)then .bse else if a.ajq.contains d then .Oa n w zs p else .uH n w zs p
    else none
   |_,_,_=>none
  |_=>none
 |.load t x=>match uV P t,dz P t,bH x with
  |some g,some s,some (.t n)=>if(g || s == 1) && decide (0<s)then some (if a.eB.contains (Ii ops 8 n)then .Vq (Ii ops 8 n) g s n else if a.rk.contains (Ii ops 8 n)then .Vp g s (.t n)else if a.kp.contains (3000000+key)then .Vo g s (.t n)else .ld g s (.t n))else none
  |_,_,_=>none
 |.store t x y=>match dz P t,bH x,bH y with
  |some s,some (.t n),some y'=>some (if a.eB.contains (Ii ops 8 n)then .IN (Ii ops 8 n) (look key [] a.nb) s n y' else(match look key none a.sx with | some os => .QP os s (.t n) y' | none => .st (look key [] a.nb) s (.t n) y'))
  |_,_,_=>none
 |.binOp b t x y _ =>
  match P.underlying t,bH x,bH y with
  |some (.int _),some x',some y'=>some (.bin b x' y')
  |some .bool,some x',some y'=>eqC P b t x' y'
  |some (.struct _),some x',some y'=>eqC P b t x' y'
  |some (.array _ _),some x',some y'=>eqC P b t x' y'
  |some .string,some x',some y'=>(match b with | .add=>some (.rl .U9 [x',y']) | .eql=>some (.rl (.seq false) [x',y']) | .neq=>some (.rl (.seq true) [x',y']) | _=>none)
  |some (.pointer _),some x',some (.c .xH)=>isC true b x'
  |some (.pointer el),some x',some y'=>if(P.info? el).isSome then(match b with | .eql=>some (.me (.peq false) [x',y']) | .neq=>some (.me (.peq true) [x',y']) | _=>none)else none
  |some (.slice _),some x',some (.c .aG)=>isC false b x'
  |some (.interface _),some x',some (.c .pg)=>(match b,y with | .eql,.const .nilIface=>some (.isi false x') | .neq,.const .nilIface=>some (.isi true x') | _,_=>none)
  |_,_,_=>none
 |.nilCheck x=>(bH x).map .mA
 |.unOp b _ x=>(bH x).map (.un b)
 |.convert s d x =>
  match P.underlying s,P.underlying d,bH x with
  |some (.int _),some (.int k),some x'=>some (.Oj k x')
  |some (.slice e),some .string,some x'=>(match P.underlying e,dz P e with | some (.int .u8),some 1=>some (.me .b2s [x']) | _,_=>none)
  |some .string,some (.slice e),some x'=>(match P.underlying e,dz P e with | some (.int .u8),some 1=>some (.me .s2b [x']) | _,_=>none)
  |_,_,_=>none
 |.sliceToArrayPointer t x =>
  match P.underlying t,bH x with
  |some (.array n e),some x'=>(dz P e).map fun w => .me (.s2a n w) [x']
  |_,_=>none
 |.makeFunc (.func f) xs ys=>match wD xs.toList,wD ys.toList with
  |some xs',some ys'=>some (.yF f xs' ys')
  |_,_=>none
 |.makeSlice t x y =>
  match P.underlying t with
  |some (.slice e) =>
   match dz P e,(P.info? e).map (·.bytes),rT P e,bH x,bH y with
   |some w,some b,some z,some x',some y'=>if 0<w∧0<b then some (.mks w b z x' y')else none
   |_,_,_,_,_=>none
  |_=>none
 |.slice t x lo hi mx =>
  match P.underlying t,bH x,xJ lo,xJ hi,xJ mx with
  |some (.slice e),some x',some lo',some hi',some mx'=>(dz P e).map fun w => .Md w x' lo' hi' mx'
  |some (.array n e),some x',some lo',some hi',some none=>(dz P e).map fun w => .QL n w x' lo' hi'
  |some .string,some x',some lo',some hi',some none=>some (.rl (.Lj lo'.isSome hi'.isSome) (x'::(lo'.toList++hi'.toList)))
  |_,_,_,_,_=>none
 |.fieldAddr s x i =>
  match P.underlying s,bH x with
  |some (.struct fs),some x' =>
   match AI P fs i with
   |some (off,sz)=>if 0<sz then some (.K9 off x')else none
   |none=>none
  |_,_=>none
 |.field s x i =>
  match P.underlying s,bH x with
  |some (.struct fs),some x' =>
   match fs[i]? with
   |some f=>match uV P f.type,dz P f.type with
    |some g,some sz=>if g || sz == 1 then some (.fld g f.offset sz x')else none
    |_,_=>none
   |none=>none
  |_,_=>none
 |.indexAddr t x i =>
  match P.underlying t,bH x,bH i with
  |some (.array n e),some x',some i'=>(dz P e).map fun w => .BM n w x' i'
  |some (.slice e),some x',some i'=>(dz P e).map fun w => .fh w x' i'
  |_,_,_=>none
 |.index t x i =>
  match P.underlying t,bH x,bH i with
  |some (.array n e),some x',some i'=>match uV P e,dz P e with
   |some g,some w=>if g || w == 1 then some (.MZ g n w x' i')else none
   |_,_=>none
  |some .string,some x',some i'=>some (.rl .D4 [x',i'])
  |_,_,_=>none
 |.extract x i=>(bH x).map (.ext · i)
 |.call c =>
  match c.callee with
  |.value f=>match bH f,wD c.args.toList with
   |some f',some xs=>some (.call (a.kp.contains key) f' xs)
   |_,_=>none
  |.builtin .len =>
   match c.argTypes.toList,c.args.toList with
   |t::_,x::_=>match P.underlying t,bH x with
    |some (.slice _),some x'=>some (.Ld x')
    |some .string,some x'=>some (.rl .z8 [x'])
    |some (.map _ _),some x'=>some (.mp .len [x'])
    |some (.array n _),_=>some (.Qp n)
    |some (.pointer r),_=>(match P.underlying r with | some (.array n _)=>some (.Qp n) | _=>none)
    |_,_=>none
   |_,_=>none
  |.builtin .recover=>some .PD
  |.builtin .min=>match c.args.toList with
   |[x,y]=>(match bH x,bH y with | some x',some y'=>some (.mn x' y') | _,_=>none)
   |_=>none
  |.builtin .max=>match c.args.toList with
   |[x,y]=>(match bH x,bH y with | some x',some y'=>some (.mx x' y') | _,_=>none)
   |_=>none
  |.builtin .append =>
   match c.argTypes.toList,c.args.toList with
   |[t,u],[x,y]=>match P.underlying t,P.underlying u,bH x,bH y with
    |some (.slice e),some uu,some x',some y' =>
     if ahB uu=true then(match dz P e,(P.info? e).map (·.bytes),rT P e with
     |some w,some b,some z=>if 0<w∧0<b∧b≤2^20∧z.length=w then
       some (if AM x && !(o.dst.any a.ajq.contains)then .cpi w b y' else if a.kp.contains (1000000+key) && (ah1 x).isSome then .ape w b ((ah1 x).getD 0) y' else if a.kp.contains key then .apz w b x' y' else(match look key none a.sx with | some os => .Uj os w b x' y' | none => .app w b x' y'))else none
     |_,_,_=>none)else none
    |_,_,_,_=>none
   |_,_=>none
  |_=>none
 |.makeInterface t x=>if P.concrete t=true then(bH x).map (.mki t)else none
 |.typeAssert x _ t ok =>
  match P.underlying t,bH x with
  |some (.interface _),_=>none
  |some _,some x'=>if ok then(zvC P t).map fun z => .tas t (some z) x' else some (.tas t none x')
  |_,_=>none
 |.panic x=>(bH x).map .PC
 |.makeMap _ none=>some (.mp .make [])
 |.makeMap t (some (.const (.int _ _)))=>(match P.underlying t with | some (.map _ _)=>some (.mp .make []) | _=>none)
 |.range t x =>
  match P.underlying t,bH x with
  |some (.map _ _),some x'=>some (.mp .rng [x'])
  |_,_=>none
 |.entry x=>(match bH x with
  |some x'=>some (.mp .ent [x'])
  |none=>none)
 |.lookup t x i ok =>
  match P.underlying t,bH x,bH i with
  |some (.map kt et),some x',some i'=>(match J8 P kt,zvC P et with
   |some ky,some z=>some (.mp (.get ky z ok) [x',i'])
   |_,_=>none)
  |_,_,_=>none
 |.mapUpdate t m x y =>
  match P.underlying t,bH m,bH x,bH y with
  |some (.map kt _),some m',some x',some y'=>(match J8 P kt with
   |some ky=>some (.mp (.put ky) [m',x',y'])
   |none=>none)
  |_,_,_,_=>none
 |.insert t m x y =>
  match P.underlying t,bH m,bH x,bH y with
  |some (.map kt _),some m',some x',some y'=>(match J8 P kt with
   |some ky=>some (.mp (.put ky) [m',x',y'])
   |none=>none)
  |_,_,_,_=>none
 |_=>none
def K.makes:K→Bool
 |.eJ .. => true
 |.Hj _=>true
 |_=>false
def K.azh:K→Bool
 |.IN .. => true
 |_=>false
def U1(P:Program)(a:bP)(n ai:Nat)(ops:Array Oper)(Bg:Bool)(i:Nat)(o:Oper):Option Op :=
 match kC P a ops (ai*1000+i) o with
 |some k =>
  match(match o.guard with
   |none=>some none
   |some (j,b)=>match(ops[j]?).bind (·.dst)with
    |some d=>some (some (d,b))
    |none=>none),(match o.dst with | some d=>decide (d<n) | none=>true)with
  |some g,true=>if(match o.dst with | some d => !(a.eB.contains d) || (k.makes && o.guard.isNone) | none => !k.makes) && (!k.azh || o.dst.isNone)then some {dst:=o.dst,E8:=g,Bg,k }else none
  |_,_=>none
 |none=>none
def M8(P:Program)(a:bP)(n ai:Nat)(ops:Array Oper)(tail:Nat):Nat→List Oper→Option (List Op)
 |_,[]=>some []
 |i,o::r=>match U1 P a n ai ops (decide (i<tail) && !(a.kp.contains (ai*1000+i))) i o,M8 P a n ai ops tail (i+1) r with
  |some x,some xs=>some (x::xs)
  |_,_=>none
def Mo.calm:Mo→Bool
 |.get .. => true
 |.len=>true
 |.ent=>true
 |_=>false
def K.calm:K→Bool
 |.st .. => false
 |.QP .. => false
 |.app .. => false
 |.Uj .. => false
 |.apz .. => false
 |.pB _=>false
 |.K5 .. => false
 |.K7 _=>false
 |.bxn .. => false
 |.Oa .. => false
 |.mks .. => false
 |.eJ nb _=>nb.isEmpty
 |.IN _ nb _ _ _=>nb.isEmpty
 |.mp o _=>o.calm
 |.PC _=>false
 |.PD=>false
 |_=>true
def K.pure:K→Bool
 |.ld .. => false
 |.Vo .. => false
 |.QL .. => false
 |.cpi .. => false
 |.ape .. => false
 |.call .. => false
 |.mp .. => false
 |.me .. => false
 |k=>k.calm
def bM.tmps:bM→List Nat
 |.t n=>[n]
 |.c _=>[]
def K.tmps:K→List Nat
 |.mv x=>x.tmps
 |.pB _=>[]
 |.pick c a b=>c.tmps++a.tmps++b.tmps
 |.K5 .. => []
 |.eJ .. => []
 |.K6 x=>x.tmps
 |.K7 x=>x.tmps
 |.bxn _ x=>x.tmps
 |.Hj x=>x.tmps
 |.Vq v _ _ a=>[v,a]
 |.IN v _ _ a x=>[v,a]++x.tmps
 |.lK _ ps=>ps.flatMap fun p=>p.2.2.tmps
 |.uH _ _ _ ps=>ps.flatMap fun p=>p.2.2.tmps
 |.Oa _ _ _ ps=>ps.flatMap fun p=>p.2.2.tmps
 |.ld _ _ a=>a.tmps
 |.Vp _ _ a=>a.tmps
 |.Vo _ _ a=>a.tmps
 |.Vn _ _ x=>x.tmps
 |.mA x=>x.tmps
 |.st _ _ a x=>a.tmps++x.tmps
 |.QP os _ a x=>a.tmps++x.tmps++os
 |.bin _ x y=>x.tmps++y.tmps
 |.eqv _ _ _ x y=>x.tmps++y.tmps
 |.un _ x=>x.tmps
 |.Oj _ x=>x.tmps
 |.yF _ xs ys=>xs.flatMap bM.tmps++ys.flatMap bM.tmps
 |.mks _ _ _ l c=>l.tmps++c.tmps
 |.Md _ x lo hi m=>x.tmps++(lo.map bM.tmps).getD []++(hi.map bM.tmps).getD []++(m.map bM.tmps).getD []
 |.QL _ _ x lo hi=>x.tmps++(lo.map bM.tmps).getD []++(hi.map bM.tmps).getD []
 |.K9 _ x=>x.tmps
 |.fld _ _ _ x=>x.tmps
 |.BM _ _ x i=>x.tmps++i.tmps
 |.fh _ x i=>x.tmps++i.tmps
 |.MZ _ _ _ x i=>x.tmps++i.tmps
 |.Ld x=>x.tmps
 |.Qp _=>[]
 |.mn x y=>x.tmps++y.tmps
 |.mx x y=>x.tmps++y.tmps
 |.app _ _ s x=>s.tmps++x.tmps
 |.Uj os _ _ s x=>s.tmps++x.tmps++os
 |.apz _ _ s x=>s.tmps++x.tmps
 |.cpi _ _ x=>x.tmps
 |.bse=>[]
 |.ape _ _ v x=>v::x.tmps
 |.ext x _=>x.tmps
 |.rl _ xs=>xs.flatMap bM.tmps
 |.mp _ xs=>xs.flatMap bM.tmps
 |.me _ xs=>xs.flatMap bM.tmps
 |.mki _ x=>x.tmps
 |.tas _ _ x=>x.tmps
 |.isi _ x=>x.tmps
 |.PC x=>x.tmps
 |.PD=>[]
 |.call _ f xs=>f.tmps++xs.flatMap bM.tmps
def Op.GD(o:Op):List Nat:=(match o.E8 with | some (g,_)=>[g] | none=>[])++o.k.tmps
def iX:List Oper→List Nat→List Nat
 |[],acc=>acc
 |o::r,acc=>iX r (acc++[o.after.toList.foldl (fun s e=>if Region.binds .any e then s ||| 2^e.on ||| acc.getD e.on 0 else s) 0])
def A3(bs:List Nat):Nat :=
 go bs.length
where
 go:Nat→Nat
  |0=>0
  |n+1=>if bs.getD n 0=2^n-1 then go n else n+1
def Op.defs(o:Op):List Nat:=o.dst.toList++(match o.k with | .IN v _ _ _ _=>[v] | _=>[])
def Op.akf(o p:Op):Bool :=
 o.defs.any (fun d=>p.defs.contains d || p.GD.contains d) || o.GD.any (fun d=>p.defs.contains d)
def Op.still(op:Op):Bool:=op.k.calm && op.Bg
def Op.far(o p:Op):Bool :=
 o.E8.isNone && p.E8.isNone &&
 match o.k,p.k with
 |.QP os _ _ _,.ld _ _ (.t m)=>os.contains m
 |.ld _ _ (.t m),.QP os _ _ _=>os.contains m
 |.QP os _ _ _,.QP _ _ (.t m) _=>os.contains m
 |.Uj os _ _ _ _,.ld _ _ (.t m)=>os.contains m
 |.ld _ _ (.t _),.K5 [] _=>true
 |.Uj ..,.Vo _ _ (.t _)=>true
 |_,_=>false
def Op.adr(o p:Op):Bool :=
 match o,p with
 |⟨none,none,_,.IN v [] _ a x⟩,⟨some d,none,_,.K9 _ (.t m)⟩=>decide (m=v∧d≠v∧d≠a∧d ∉ x.tmps)
 |_,_=>false
def Op.free(o p:Op):Bool:=o.adr p || (!(o.akf p) && (o.still && p.still || o.k.pure || p.k.pure || o.far p))
def JO(bs:List Nat):Nat→List Op→Bool
 |_,[]=>true
 |i,o::r=>after i (i+1) o r && JO bs (i+1) r
where
 after (i:Nat):Nat→Op→List Op→Bool
  |_,_,[]=>true
  |j,o,p::r=>(o.free p || (bs.getD j 0).testBit i) && after i (j+1) o r
def F7:Nat→List Oper→Bool
 |_,[]=>true
 |i,o::r=>(o.after.toList.all fun e => !Region.binds .any e || decide (e.on<i)) && F7 (i+1) r
def JS(live:List Nat):Option Nat→List Op→cX
 |some j,xs=>match xs.drop j with
  |x::r => .iT live (xs.take j) x r
  |[] => .ai live xs
 |none,xs => .ai live xs
def QF(P:Program)(a:bP)(n:Nat)(id:Nat)(ops:Array Oper)(draw:Bool):Option cX :=
  if draw then
   let bs:=iX ops.toList []
   let tail:=A3 bs
   match M8 P a n id ops tail 0 ops.toList with
   |some xs=>if JO bs 0 (xs.take tail) && F7 0 ops.toList && xs.all (fun x=>x.k != .PD)then some (JS (look id [] a.live) ((look id none a.fX).filter fun j=>decide (tail≤j)) xs)else none
   |none=>none
  else(M8 P a n id ops 0 0 ops.toList).map (JS (look id [] a.live) (look id none a.fX))
def yO(c:cX):List Nat→cX
 |[]=>c
 |vs => .seq (.cG vs) c
def Cz:cX:=.ai [] [⟨none,none,false,.Vn false false (.c .undef)⟩]
def MS:Code→Option (bM×List bM)
 |.region _ ops false =>
  match ops.toList with
  |[o]=>(match o.op,o.dst,o.guard with
   |.defer c,none,none=>(match c.callee with
    |.value f=>(match bH f,wD c.args.toList with
     |some f',some xs=>some (f',xs)
     |_,_=>none)
    |_=>none)
   |_,_,_=>none)
  |_=>none
 |_=>none
def Us(P:Program)(a:bP)(n:Nat):Code→Option (cX×bM×List bM)
 |.region id ops false =>
  match ops.toList with
  |[m,o]=>(match o.op,o.dst,o.guard,m.dst with
   |.defer c,none,none,some t=>(match c.callee with
    |.value f=>(match U1 P a n id ops false 0 m,bH f,wD c.args.toList with
     |some op,some f',some xs=>if op.k=.PD then none else some (.ai (t::(xs.flatMap bM.tmps++look id [] a.live)) [op],f',xs)
     |_,_,_=>none)
    |_=>none)
   |_,_,_,_=>none)
  |_=>none
 |_=>none
def Qu(a:bP)(n:Nat):Code→Option (Nat×Nat×Nat)
 |.loop (.seq (.region _ ops false) _) =>
  match ops.toList with
  |[o,p]=>(match o.op,o.dst,o.guard,p.op,p.dst,p.guard with
   |.next (.tmp it) false,some nx,none,.extract (.tmp nx') 0,some ok,none =>
    if nx'=nx∧nx<n∧ok<n∧nx≠ok∧nx ∉ a.eB∧ok ∉ a.eB then some (it,nx,ok)else none
   |_,_,_,_,_,_=>none)
  |_=>none
 |_=>none
def aiY(a:bP)(n id:Nat)(x:Code)(x':cX):cX :=
 match Qu a n x,x' with
 |some (it,nx,ok),.loop live _ (.seq _ c) => .jJ live (.t it) nx ok id c .cI
 |_,x' => .bD id x'
def Va(P:Program)(a:bP)(n:Nat)(x:Code)(x' y':cX):cX :=
 match MS x with
 |some (f,xs) => .Wu f xs y'
 |none =>
  match Us P a n x with
  |some (c,f,xs) => .seq c (.Wu f xs y')
  |none =>
  match x,x' with
  |.seq _ (.block _ _),.seq p' (.jJ live it nx ok b c .cI) => .seq p' (.jJ live it nx ok b c y')
  |_,_ => .seq x' y'
def Kp(c:cX):cX:=match jH c with | some _=>Cz | none => .seq .cI c
def bZ(P:Program)(a:bP)(n:Nat)(bD:Nat):Code→Option cX
 |.skip=>some .cI
 |.region id ops draw=>match QF P a n id ops draw with
  |some c=>some (yO c (look id [] a.fz))
  |none=>some Cz
 |.seq x y=>match bZ P a n bD x,bZ P a n bD y with
  |some x',some y'=>some (Va P a n x x' y')
  |_,_=>none
 |.cond c x y=>match bH c,bZ P a n bD x,bZ P a n bD y with
  |some c',some x',some y'=>some (.ite c' x' y')
  |_,_,_=>none
 |.block id x=>(bZ P a n id x).map (aiY a n id x)
 |.loop x=>(bZ P a n bD x).map (.loop (look bD [] a.aoV) (a.bA.contains bD))
 |.rangeFunc f ps x y=>match bH f,bZ P a n bD x,bZ P a n bD y with
  |some f',some x',some y'=>if ps.toList.all (fun t=>decide (t<n) && !(a.eB.contains t))then some (.QH (look bD [] a.aoV) f' ps.toList x' y')else none
  |_,_,_=>none
 |.exit id=>some (.exit id)
 |.ret=>some .ret
 |.scope x=>(bZ P a n bD x).map Kp
 |.label _=>some .cI
 |_=>some Cz
def ajE(P:Program)(a:bP):ResultVar→Option Fu
 |.tmp t=>some (.t t)
 |.cell x t=>match uV P t,dz P t with
  |some g,some s=>if(g || s == 1) && decide (0<s)then some (if a.eB.contains x then .v x g s else .c x g s)else none
  |_,_=>none
def Ih(P:Program)(a:bP):List ResultVar→Option (List Fu)
 |[]=>some []
 |r::rs=>match ajE P a r,Ih P a rs with
  |some x,some xs=>some (x::xs)
  |_,_=>none
def fnC(P:Program)(a:bP)(f:Func):Option Fn :=
 match f.body with
 |some c=>match bZ P a f.ntmps 0 c,Ih P a f.results.toList with
  |some c',some rs=>if f.params.size+f.nfree≤f.ntmps then some {Qy:=f.params.size+f.nfree,res:=rs,body:=c' }else none
  |_,_=>none
 |none=>none
def Rd(w:World)(b o:Nat)(vs:List Value):Prop:=∀(j:Nat) x,vs[j]?=some x→w.cell? ⟨b,o+j,none⟩=some x
theorem Rd.take{w:World}{b o:Nat}{vs:List Value}(h:Rd w b o vs)(n:Nat):Rd w b o (vs.take n):=fun j x e=>h j x (by
 rw[ei]at e;split at e<;>simp_all)
theorem Rd.drop{w:World}{b o:Nat}{vs:List Value}(h:Rd w b o vs)(n:Nat):Rd w b (o+n) (vs.drop n):=fun j x e=>by
 have:=h (n+j) x (by rw[eh]at e;exact e);rw[show o+n+j=o+(n+j)from by omega];exact this
theorem add_eq(b o n:Nat):Addr.add ⟨b,o,none⟩ n=⟨b,o+n,none⟩:=by
 unfold Addr.add;split
 ·subst_vars;rfl
 ·rfl
section types
variable {P:Program} {t:TypeId}
theorem run_typeInfo{i:TypeInfo}(h:P.info? t=some i)(w:World):(typeInfo t).run P w=.ok i w:=by
 simp[typeInfo,h]
theorem run_sizeOf{s:Nat}(h:dz P t=some s)(w:World):(sizeOf t).run P w=.ok s w:=by
 simp only[dz,ad]at h;obtain⟨i,hi,rfl⟩:=h;simp[sizeOf,run_typeInfo hi]
theorem bq{d:TypeDesc}(h:P.underlying t=some d)(w:World):(underlying t).run P w=.ok d w:=by
 simp[underlying,h]
theorem Dk{b:Bool}(h:uV P t=some b)(w:World):(isAgg t).run P w=.ok b w:=by
 unfold uV at h;cases hu:P.underlying t with
 |none=>simp[hu]at h
 |some d =>
  rw[hu]at h;simp only[isAgg,Sem.run_bind,bq hu,Result.andThen_ok];cases d<;>simp_all
theorem iq{z:Value}{i:TypeInfo}(h:P.info? t=some i)(hz:i.zero=some z)(w:World):(zeroValue t).run P w=.ok z w:=by
 simp[zeroValue,run_typeInfo h,hz]
end types
theorem Py(g:G){v:Value}{d:D}(h:aj3 v=some d):bK g d v∧v.oneCell'=true:=by
 unfold aj3 at h;split at h<;>first | (cases h;exact⟨by constructor,rfl⟩) | cases h
theorem JP(g:G){vs:List Value}{ds:List D}(h:Hk vs=some ds):bF g ds vs∧∀x∈vs,x.oneCell'=true:=by
 induction vs generalizing ds with
 |nil=>simp only[Hk,ae]at h;subst h;exact⟨.nil,by simp⟩
 |cons v vs ih =>
  simp only[Hk]at h;split at h
  ·rename_i d ds' h1 h2;cases h;obtain⟨h3,h4⟩:=ih h2;obtain⟨h5,h6⟩:=Py g h1;exact⟨.cons _ _ _ _ h5 h3,by simp only[bf];rintro x (rfl | hx);exact h6;exact h4 x hx⟩
  ·cases h
theorem JR(g:G){v:Value}{d:D}(h:MN v=some d):bK g d v:=by
 unfold MN at h;split at h
 ·rename_i cs;simp only[ad]at h;obtain⟨ds,h1,rfl⟩:=h;obtain⟨h2,h3⟩:=JP g h1;exact .agg ds cs h2 h3
 ·exact(Py g h).1
theorem tn{P:Program}{t:TypeId}(g:G){z:List D}(h:rT P t=some z):∃i v,P.info? t=some i∧i.zero=some v∧bF g z v.cells.toList∧∀x∈v.cells.toList,x.oneCell'=true:=by
 unfold rT at h;split at h
 ·rename_i i hi;split at h
  ·rename_i v hv;obtain⟨h2,h3⟩:=JP g h;exact⟨i,v,hi,hv,h2,h3⟩
  ·cases h
 ·cases h
theorem CQ{P:Program}{t:TypeId}{w:World}{b o sz:Nat}{ag:Bool}{vs:List Value}(hag:uV P t=some ag)(hsz:dz P t=some sz)(hone:(ag || sz == 1)=true)
  (hr:Rd w b o vs) (hlen:sz≤vs.length):
  ∃v,(loadVar t ⟨b,o,none⟩).run P w=.ok v w∧(if ag then v=.agg (vs.take sz).toArray else ∃x r,vs=x::r∧v=x):=by
 cases ag with
 |true =>
  have h1:(loadCells ⟨b,o,none⟩ sz).run P w=.ok (vs.take sz).toArray w:=by
   have:=run_loadCells_list (P:=P) w ⟨b,o,none⟩ (vs.take sz) (fun j v e=>by rw[add_eq];exact hr.take sz j v e);rwa[lF,Nat.min_eq_left hlen]at this
  exact⟨_,by simp[loadVar,Dk hag,run_sizeOf hsz,h1],rfl⟩
 |false =>
  simp only[Bool.false_or,beq_iff_eq]at hone;subst hone;cases vs with
  |nil=>simp at hlen
  |cons x r =>
   have:=hr 0 x rfl;exact⟨x,by simp only[Nat.add_zero]at this;simp[loadVar,Dk hag,this],x,r,rfl,rfl⟩
theorem xL{P:Program}{b:Nat}{el:TypeId}:∀(ps:List Value) (w:World) (o i:Nat) (c:Array Value),(∀x∈ps,x.oneCell'=true) →
  w.heap[b]?=some (.cells c el (0,0))→o+i+ps.length≤c.size →
  ∃w' c',(storeCells ⟨b,o,none⟩ ps i).run P w=.ok () w'∧w'.heap[b]?=some (.cells c' el (0,0))∧c'.size=c.size ∧
   (∀j,c'[j]?=if o+i≤j∧j<o+i+ps.length then ps[j-(o+i)]? else c[j]?) ∧
   (∀x,x≠b→w'.heap[x]?=w.heap[x]?)∧w'.heap.size=w.heap.size∧w'.os=w.os∧w'.tape=w.tape∧w'.output=w.output
 |[],w,o,i,c,_,hb,_=>⟨w,c,by simp[storeCells],hb,rfl,fun j=>by rw[if_neg (by simp only[bG];omega)],fun _ _=>rfl,rfl,rfl,rfl,rfl⟩
 |p::ps,w,o,i,c,h1,hb,hl=>by
  simp only[aL]at hl;have hp:=h1 p (by simp);have hcell:w.cell? ⟨b,o+i,none⟩=some (c[o+i]'(by omega)):=by
   simp only[World.cell?,hb];simp
  have hfz:w.frozen? ⟨b,o+i,none⟩=false:=by simp[World.frozen?,hb]
  have hb1:(w.setCell ⟨b,o+i,none⟩ p).heap[b]?=some (.cells (c.setIfInBounds (o+i) p) el (0,0)):=by
   simp[World.setCell,jd,hb]
  obtain⟨w',c',hrun,hb',hs,hc,ho,hsz,e1,e2,e3⟩:=xL ps (w.setCell ⟨b,o+i,none⟩ p) o (i+1) (c.setIfInBounds (o+i) p) (fun x hx=>h1 x (by simp[hx])) hb1 (by simp;omega);refine⟨w',c',?_,hb',by simpa using hs,?_,?_,by simpa using hsz,e1,e2,e3⟩
  ·simp only[storeCells,Sem.run_bind,add_eq,run_store P w _ p .plain hp,hcell,hfz];simpa using hrun
  ·intro j;rw[hc j];by_cases hj:j=o+i
   ·subst hj;rw[if_neg (by omega),if_pos (by simp)];rw[Array.getElem?_setIfInBounds_self_of_lt (by omega)];simp
   ·by_cases hj2:o+(i+1)≤j∧j<o+(i+1)+ps.length
    ·rw[if_pos hj2,if_pos (by simp;omega)];rw[show j-(o+i)=(j-(o+(i+1)))+1 from by omega];simp
    ·rw[if_neg hj2,if_neg (by simp;omega)];rw[Array.getElem?_setIfInBounds_ne (by omega)]
  ·intro x hx;rw[ho x hx];simp only[World.setCell,jd];rw[if_neg (by simpa using fun e=>hx e.symm)]
theorem Gx{P:Program}{t:TypeId}{w:World}{b o sz:Nat}{el:TypeId}{c:Array Value}{v:Value}(hsz:dz P t=some sz)(hv:v.cells.size=sz)
  (h1:∀x∈v.cells.toList,x.oneCell'=true) (hb:w.heap[b]?=some (.cells c el (0,0))) (hl:o+sz≤c.size):
  ∃w' c',(storeVar t ⟨b,o,none⟩ v).run P w=.ok () w'∧w'.heap[b]?=some (.cells c' el (0,0))∧c'.size=c.size ∧
   (∀j,c'[j]?=if o≤j∧j<o+sz then v.cells.toList[j-o]? else c[j]?) ∧
   (∀x,x≠b→w'.heap[x]?=w.heap[x]?)∧w'.heap.size=w.heap.size∧w'.os=w.os∧w'.tape=w.tape∧w'.output=w.output:=by
 obtain⟨w',c',hrun,rest⟩:=xL (P:=P) (b:=b) (el:=el) v.cells.toList w o 0 c h1 hb (by simp[hv];omega);refine⟨w',c',?_,?_⟩
 ·simp only[storeVar,Sem.run_bind,run_sizeOf hsz,Result.andThen_ok,hv];simpa using hrun
 ·simpa[hv]using rest
end Go.Abs
