import Derived.Test.YtfgljaglidhjiaaGreatDoorBase12
import Derived.Lib.LaidTab
import Derived.LaidLaws
import Derived.Shelf.Vars
set_option linter.all false
namespace Go.Abs
open Go
theorem QN{P:Program}{w:World}:∀{l:List (String×DataW Unit)} {ps:List MemPlace},DataW.LaidVars P w l ps→∀x∈l,
  ∃g t cs fuel p,P.globalNamed x.1=some g∧(P.globals[g]?).map (·.type)=some t∧w.var? P x.1=some cs∧DataW.trod (fun _=>()) P w 0 (fun _=>true) false fuel t cs.toList=some (x.2,p) ∧
   ∀m∈MemPlace.row ⟨g,0,none⟩ cs.size,m∈ps
 |[],_,_,x,hx=>by cases hx
 |(n,d)::r,ps,h,x,hx=>by
  obtain⟨g,t,cs,fuel,p,q,h1,h2,h3,h4,h5,rfl⟩:=h;rcases bd.1 hx with rfl | hx
  ·exact⟨g,t,cs,fuel,p,h1,h2,h3,h4,fun m hm=>by simp[hm]⟩
  ·obtain⟨g',t',cs',f',p',k1,k2,k3,k4,k5⟩:=QN h5 x hx;exact⟨g',t',cs',f',p',k1,k2,k3,k4,fun m hm=>by simp[k5 m hm]⟩
theorem Jl{P:Program}{w:World}{l:List (String×DataW Unit)}(hl:laidMet P l w){n:String}{d:DataW Unit}(hx:(n,d)∈l){b t:Nat}(hb:P.globalNamed n=some b)(ht:(P.globals[b]?).map (·.type)=some t):
  ∃cs fuel p,DataW.trod (fun _=>()) P w 0 (fun _=>true) false fuel t cs.toList=some (d,p)∧(0<cs.size→∃t',w.heap[b]?=some (.cells cs t' (0,0))):=by
 obtain⟨ps,h1,_,h2⟩:=hl;obtain⟨g,t',cs,fuel,p,k1,k2,k3,k4,k5⟩:=QN h1 _ hx;obtain rfl:=Option.some.inj (hb.symm.trans k1);obtain rfl:=Option.some.inj (ht.symm.trans k2);refine⟨cs,fuel,p,k4,fun hpos=>?_⟩;obtain⟨⟨c,t',hc⟩,_⟩:=h2 b 0 (k5 _ (by simp only[MemPlace.row,bR,List.mem_range];exact⟨0,hpos,by simp⟩));simp only[World.var?,hb,Option.bind_some,hc,ae]at k3;subst k3;exact⟨t',hc⟩
theorem QC{P:Program}{w:World}{l:List (String×DataW Unit)}(hl:laidMet P l w){n nm:String}{d:DataW Unit}(hx:(n,.iface nm d)∈l){b t:Nat}{ms:Array (String×TypeId)}(hb:P.globalNamed n=some b)
  (ht:(P.globals[b]?).map (·.type)=some t) (hu:P.underlying t=some (.interface ms)):∃c t v,w.heap[b]?=some (.cells c t (0,0))∧c[0]?=some v∧v.oneCell'=true∧ags (.cells c t (0,0)):=by
 obtain⟨cs,fuel,p,h1,h2⟩:=Jl hl hx hb ht;obtain⟨f1,u,v,hcs,_⟩:=iface_of_trod hu h1;obtain rfl:cs = #[.iface u v]:=by rw[← gZ,hcs]
 obtain⟨t',hc⟩:=h2 (by simp);exact⟨_,t',.iface u v,hc,by simp,rfl,_,t',_,.iface u v,rfl,by simp,.inr ⟨u,v,rfl⟩⟩
theorem agS{P:Program}{w:World}{l:List (String×DataW Unit)}(hl:laidMet P l w){n:String}(hx:(n,Lib.tabData .u64 Lib.pow10Tab)∈l){b t e k:Nat}(hb:P.globalNamed n=some b)
  (ht:(P.globals[b]?).map (·.type)=some t) (hu:P.underlying t=some (.array k e)) (he:P.underlying e=some (.int .u64)) (hce:P.cellsOf e=1) (hct:P.cellsOf t=k):
  ∃c t v,w.heap[b]?=some (.cells c t (0,0))∧c[0]?=some v∧v.oneCell'=true∧anH (.cells c t (0,0)):=by
 obtain⟨cs,fuel,p,h1,h2⟩:=Jl hl hx hb ht;have hcs:=Lib.cells_of_tab hu he hce hct h1;obtain rfl:cs=(Lib.pow10Tab.map (Value.int .u64)).toArray:=by rw[← gZ,hcs]
 obtain⟨t',hc⟩:=h2 (by decide);exact⟨_,t',.int .u64 1,hc,rfl,rfl,t',_,rfl⟩
theorem agR{P:Program}{w:World}(h:w.ShapedOpen P){g t:Nat}{zero:Array Value}(hg:g<P.globals.size)(h0:((begin P (fun _ _=>0) default).world.heap[g]?).bind Obj.row?=some (zero,t))(hz:zero.size=1)
  (hb:P.buildable t=true) (hc:P.cellTypes P.depth t=some [t]) (hu:P.underlying t=some (.int .i64)):∃c t v,w.heap[g]?=some (.cells c t (0,0))∧c[0]?=some v∧v.oneCell'=true∧anG (.cells c t (0,0)):=by
 obtain⟨m,hm⟩:=Go.Proofs.cell_of_shapedOpen_int h hg h0 hz hb hc hu;obtain⟨cs,hh,_⟩:=h.1 g zero t hg h0;have h1:cs[0]?=some (.int .i64 m):=by simpa[World.cell?,hh]using hm
 exact⟨cs,t,_,hh,h1,rfl,cs,t,_,m,rfl,h1⟩
variable {T:yR} {O:bM}
theorem aD.{u}{α:Sort u}{a b:α}(h:a=b):a=b:=h
inductive Mark.{u} {α:Sort u} (a:α):Type
 |mk
def WO(O:bM)(ops:List Op)(e:Env)(σ:SK)(Q:Env→SK→Prop)(_m:Mark Q:=.mk):Prop:=∃e' σ',mT O ops e σ=some (e',σ')∧Q e' σ'
def WC(O:bM)(c:cF)(e:Env)(σ:SK)(Q:Exit→Env→SK→Prop)(_m:Mark c:=.mk)(_m':Mark Q:=.mk):Prop:=∃x e' σ',aW O c e σ=some (x,e',σ')∧Q x e' σ'
def WV(o:Option (D×SK))(Q:D→SK→Prop)(_m:Mark Q:=.mk):Prop:=∃d σ',o=some (d,σ')∧Q d σ'
def WL(T:yR)(live:List Nat)(bj:Bool)(c:cF)(e:Env)(σ:SK)(Q:Exit→Env→SK→Prop)(_m:Mark c:=.mk)(_m':Mark Q:=.mk):Prop:=∃x e' σ',lim T (.loop live bj c e σ)=some (.CJ x e' σ')∧Q x e' σ'
theorem WO.mono{ops:List Op}{e:Env}{σ:SK}{Q Q':Env→SK→Prop}(h:WO O ops e σ Q)(hq:∀e σ,Q e σ→Q' e σ):WO O ops e σ Q' :=
 let ⟨e',σ',h1,h2⟩:=h;⟨e',σ',h1,hq _ _ h2⟩
theorem WC.mono{c:cF}{e:Env}{σ:SK}{Q Q':Exit→Env→SK→Prop}(h:WC O c e σ Q)(hq:∀x e σ,Q x e σ→Q' x e σ):WC O c e σ Q' :=
 let ⟨x,e',σ',h1,h2⟩:=h;⟨x,e',σ',h1,hq _ _ _ h2⟩
theorem WL.mono{live:List Nat}{bj:Bool}{c:cF}{e:Env}{σ:SK}{Q Q':Exit→Env→SK→Prop}(h:WL T live bj c e σ Q)(hq:∀x e σ,Q x e σ→Q' x e σ):WL T live bj c e σ Q' :=
 let ⟨x,e',σ',h1,h2⟩:=h;⟨x,e',σ',h1,hq _ _ _ h2⟩
def WD{α:Type}(o:Option α)(Q:α→Prop)(_m:Mark Q:=.mk):Prop:=∃d,o=some d∧Q d
@[simp,simp ↓] theorem DV{α:Type}{d:α}{Q:α→Prop}:WD (some d) Q=Q d:=by
 simp only[WD,ae,eq_iff_iff];exact⟨fun⟨_,h,h'⟩=>by rw[h];exact h',fun h=>⟨_,rfl,h⟩⟩
@[simp,simp ↓] theorem agz{α:Type}{Q:α→Prop}:WD none Q=False:=by simp[WD]
def Ll:D→Option Bool
 |.bool b=>some b
 |_=>none
@[simp] theorem anT{b:Bool}:Ll (.bool b)=some b:=aD rfl
@[simp] theorem atX{b:Bool}:(D.bool b).bit=some (some b):=aD rfl
@[simp] theorem axq:(D.dV []).bit=some none:=aD rfl
def anY(k:IntKind):D→Option D
 |.int _ m=>some (.int k (k.wrap m))
 |_=>none
@[simp] theorem at3{k k':IntKind}{m:Int}:anY k (.int k' m)=some (.int k (k.wrap m)):=aD rfl
@[simp,simp ↓] theorem axi{d:D}{σ:SK}{Q:D→SK→Prop}:WV (some (d,σ)) Q=Q d σ:=by
 simp only[WV,ae,ak,eq_iff_iff];constructor
 ·rintro⟨_,_,⟨rfl,rfl⟩,h⟩;exact h
 ·exact fun h=>⟨_,_,⟨rfl,rfl⟩,h⟩
@[simp,simp ↓] theorem axh{Q:D→SK→Prop}:WV none Q=False:=by simp[WV]
@[simp,simp ↓] theorem ayp{e:Env}{σ:SK}{Q:Env→SK→Prop}:WO O [] e σ Q=Q e σ:=by
 simp only[WO,mT,ae,ak,eq_iff_iff];constructor
 ·rintro⟨_,_,⟨rfl,rfl⟩,h⟩;exact h
 ·exact fun h=>⟨_,_,⟨rfl,rfl⟩,h⟩
def azN(d:D)(w:Bool):Option Bool :=
 match d with
 |.bool b=>some (b == w)
 |_=>none
@[simp,simp ↓] theorem ayf{d:Option Nat}{g:Nat}{w n:Bool}{k:K}{r:List Op}{e:Env}{σ:SK}{Q:Env→SK→Prop}:
  WO O (⟨d,some (g,w),n,k⟩::r) e σ Q=WD (get e g).bit fun b=>if b=some w then WO O (⟨d,none,n,k⟩::r) e σ Q else WO O r (put d (.dV []) e) σ Q:=by
 cases h:(get e g).bit<;>simp only[WO,mT,h,reduceCtorEq,false_and,exists_false,agz,DV];rename_i b;by_cases hb:b=some w
 ·simp only[hb,if_true];rfl
 ·simp only[if_neg hb]
theorem dL{d:Option Nat}{n:Bool}{k:K}{r:List Op}{e:Env}{σ:SK}{Q:Env→SK→Prop}(h:wg O ⟨d,none,n,k⟩ e σ=(bH e σ k).map fun x=>(put d x.1 e,x.2)):
  WO O (⟨d,none,n,k⟩::r) e σ Q=WV (bH e σ k) fun v σ'=>WO O r (put d v e) σ' Q:=by
 simp only[WO,mT,h,WV,eq_iff_iff];constructor
 ·rintro⟨e',σ',h1,h2⟩;cases hs:bH e σ k with
  |none=>simp[hs]at h1
  |some y=>simp[hs]at h1;exact⟨y.1,y.2,rfl,e',σ',h1,h2⟩
 ·rintro⟨v,σ1,h1,e',σ',h2,h3⟩;exact⟨e',σ',by simp[h1,h2],h3⟩
theorem oc{o:Option (D×SK)}{o':Option D}{σ:SK}{Q:D→SK→Prop}(h:o=o'.map (·,σ)):WV o Q=WD o' fun v=>Q v σ:=by
 subst h;cases o'<;>simp
def aeL:D→Option D
 |.aK=>some (.int .i64 0)
 |.aH n _=>some (.int .i64 n)
 |.sl _ _ _ _ n _=>some (.int .i64 n)
 |_=>none
@[simp] theorem asZ:aeL .aK=some (.int .i64 0):=aD rfl
@[simp] theorem avG{n:Nat}{cs:List D}:aeL (.aH n cs)=some (.int .i64 n):=aD rfl
@[simp] theorem axC{l i v o n w:Nat}:aeL (.sl l i v o n w)=some (.int .i64 n):=aD rfl
def MY(ag:Bool)(sz:Nat):Option (List D)→Option D
 |some cs =>
  if sz≤cs.length then
   if ag then some (.agg (cs.take sz))else
   match cs with
   |d::_=>some d
   |[]=>none
  else none
 |none=>none
@[simp] theorem ayG{sz:Nat}{cs:List D}:MY true sz (some cs)=if sz≤cs.length then some (.agg (cs.take sz))else none:=aD rfl
@[simp] theorem axA{d:D}{cs:List D}:MY false 1 (some (d::cs))=some d:=by simp[MY]
@[simp] theorem avV{σ:SK}{cs:List D}:Fq σ (.bB cs)=some cs:=aD rfl
@[simp] theorem axH{σ:SK}{l i v off:Nat}:Fq σ (.ref l i v off)=(cells? σ l i v).map (·.drop off):=aD rfl
def aeK(e:Env)(v:Nat)(ag:Bool)(sz a:Nat):Option D:=MY ag sz ((sA e v a).map fun x=>x.2.1.drop x.2.2)
def T5:D→Option (List D)
 |.bB cs=>some cs
 |_=>none
@[simp] theorem anW{cs:List D}:T5 (.bB cs)=some cs:=aD rfl
@[simp] theorem asX:Ix false .aK=some true:=aD rfl
@[simp] theorem avC{n:Nat}{cs:List D}:Ix false (.aH n cs)=if n=0 then none else some false:=aD rfl
def avK:D→Option D
 |.bB cs=>some (.bB cs)
 |.ref l i v off=>some (.ref l i v off)
 |_=>none
@[simp] theorem avL{l i v off:Nat}:avK (.ref l i v off)=some (.ref l i v off):=aD rfl
def unD:UnOp→D→Option D
 |.not,.bool b=>some (.bool !b)
 |.neg,.int k n=>some (.int k (k.wrap (0-n)))
 |.xor,.int k n=>some (.int k (k.wrap ((BitVec.ofInt k.bits (if k.signed then -1 else k.max) ^^^ BitVec.ofInt k.bits n).toNat:Int)))
 |_,_=>none
theorem MR{n:Nat}(h:n<256):unD .xor (.int .u8 n)=some (.int .u8 ((255-n:Nat):Int)):=by
 have key:∀m:Fin 256,IntKind.u8.wrap ((BitVec.ofInt 8 255 ^^^ BitVec.ofInt 8 (m.1:Int)).toNat:Int)=((255-m.1:Nat):Int):=by decide +kernel
 have:=key ⟨n,h⟩;simp only[unD];exact congrArg (fun z=>some (D.int .u8 z)) this
@[simp] theorem axO{b:Bool}:unD .not (.bool b)=some (.bool !b):=aD rfl
@[simp] theorem axN{k:IntKind}{n:Int}:unD .neg (.int k n)=some (.int k (k.wrap (0-n))):=aD rfl
def LG(n off:Nat):D→Option D
 |.bB cs=>some (.bB (cs.drop off))
 |.ref l i v o=>some (.ref l i v (o+off))
 |.own s _=>some (.vr n s off)
 |.vr v s o=>some (.vr v s (o+off))
 |_=>none
@[simp] theorem are{n off:Nat}{cs:List D}:LG n off (.bB cs)=some (.bB (cs.drop off)):=aD rfl
@[simp] theorem asN{n off l i v o:Nat}:LG n off (.ref l i v o)=some (.ref l i v (o+off)):=aD rfl
@[simp] theorem asM{n off s:Nat}{cs:List D}:LG n off (.own s cs)=some (.vr n s off):=aD rfl
@[simp] theorem avq{n off v s o:Nat}:LG n off (.vr v s o)=some (.vr v s (o+off)):=aD rfl
def aAc(ag:Bool)(off sz:Nat):D→Option D
 |.agg cs =>
  if off+sz≤cs.length then
   if ag then some (.agg ((cs.drop off).take sz))else cs[off]?
  else none
 |_=>none
def QH(m len w:Nat)(x i:D):Option D :=
 match Ef i with
 |some n =>
  if 0≤n∧n<len then
   match x with
   |.bB cs=>some (.bB ((cs.drop (n.toNat*w)).take w))
   |.ref l j v off=>some (.ref l j v (off+n.toNat*w))
   |.own s _=>some (.vr m s (n.toNat*w))
   |.vr v s o=>some (.vr v s (o+n.toNat*w))
   |_=>none
  else none
 |none=>none
@[simp] theorem arl{m len w:Nat}{cs:List D}{k:IntKind}{n:Int}:QH m len w (.bB cs) (.int k n)=if 0≤n∧n<len then some (.bB ((cs.drop (n.toNat*w)).take w))else none:=aD rfl
@[simp] theorem asT{m len w l j v off:Nat}{k:IntKind}{n:Int}:QH m len w (.ref l j v off) (.int k n)=if 0≤n∧n<len then some (.ref l j v (off+n.toNat*w))else none:=aD rfl
def QI(w:Nat)(x i:D):Option D :=
 match x,Ef i with
 |.aH m cs,some n=>if 0≤n∧n<m then some (.bB ((cs.drop (n.toNat*w)).take w))else none
 |.sl l j v off m w',some n=>if 0≤n∧n<m∧w'=w then some (.ref l j v (off+n.toNat*w))else none
 |_,_=>none
@[simp] theorem asU{w m:Nat}{cs:List D}{k:IntKind}{n:Int}:QI w (.aH m cs) (.int k n)=if 0≤n∧n<m then some (.bB ((cs.drop (n.toNat*w)).take w))else none:=aD rfl
@[simp] theorem avz{w l j v off m w':Nat}{k:IntKind}{n:Int}:QI w (.sl l j v off m w') (.int k n)=if 0≤n∧n<m∧w'=w then some (.ref l j v (off+n.toNat*w))else none:=aD rfl
def aev(ag:Bool)(len w:Nat)(x i:D):Option D :=
 match x,Ef i with
 |.agg cs,some n =>
  if 0≤n∧n<len∧(n.toNat+1)*w≤cs.length then
   if ag then some (.agg ((cs.drop (n.toNat*w)).take w))else cs[n.toNat*w]?
  else none
 |_,_=>none
@[simp] theorem asV{ag:Bool}{len w:Nat}{cs:List D}{k:IntKind}{n:Int}:aev ag len w (.agg cs) (.int k n)=if 0≤n∧n<len∧(n.toNat+1)*w≤cs.length then(if ag then some (.agg ((cs.drop (n.toNat*w)).take w))else cs[n.toNat*w]?)else none:=aD rfl
def mnD(x y:D):Option D :=
 match x,y with
 |.int k a,.int _ b=>some (.int k (min a b))
 |_,_=>none
@[simp] theorem axD{k k':IntKind}{a b:Int}:mnD (.int k a) (.int k' b)=some (.int k (min a b)):=aD rfl
def mxD(x y:D):Option D :=
 match x,y with
 |.int k a,.int _ b=>some (.int k (max a b))
 |_,_=>none
@[simp] theorem axE{k k':IntKind}{a b:Int}:mxD (.int k a) (.int k' b)=some (.int k (max a b)):=aD rfl
def aud(x:D)(i:Nat):Option D :=
 match x with
 |.dV ds=>ds[i]?
 |_=>none
@[simp] theorem aue{ds:List D}{i:Nat}:aud (.dV ds) i=ds[i]?:=aD rfl
def an6(ag:Bool)(ks:List (Option IntKind))(neg:Bool)(x y:D):Option D :=
 match x.row ag,y.row ag with
 |some p,some q=>(Ac ks p q).map fun b => .bool (if neg then !b else b)
 |_,_=>none
@[simp] theorem axu{ks:List (Option IntKind)}{neg:Bool}{p q:List D}:an6 true ks neg (.agg p) (.agg q)=(Ac ks p q).map fun b => .bool (if neg then !b else b):=aD rfl
@[simp] theorem avX:Ac [] [] []=some true:=aD rfl
@[simp] theorem avW{k k1 k2:IntKind}{ks:List (Option IntKind)}{a b:Int}{x y:List D}:Ac (some k::ks) (.int k1 a::x) (.int k2 b::y)=if k1=k∧k2=k then(Ac ks x y).map (a == b && ·)else none:=aD rfl
def ast(w:Nat)(x:D)(e:Env)(lo hi mx:Option bG):Option D :=
 match x with
 |.aH n cs=>(bounds n e lo hi mx).map fun b => .aH (b.2-b.1) ((cs.drop (b.1*w)).take ((b.2-b.1)*w))
 |.sl l i v off n w'=>if w'=w then(bounds n e lo hi mx).map fun b => .sl l i v (off+b.1*w) (b.2-b.1) w else none
 |.aK=>(bounds 0 e lo hi mx).map fun _ => .aK
 |_=>none
@[simp] theorem awA{w n:Nat}{cs:List D}{e:Env}{lo hi mx:Option bG}:ast w (.aH n cs) e lo hi mx=(bounds n e lo hi mx).map fun b => .aH (b.2-b.1) ((cs.drop (b.1*w)).take ((b.2-b.1)*w)):=aD rfl
section bins
variable {k:IntKind} {a b:Int}
@[simp] theorem atJ:tX .add (.int k a) (.int k b)=some (.int k (k.wrap (a+b))):=by simp[tX]
@[simp] theorem atW:tX .sub (.int k a) (.int k b)=some (.int k (k.wrap (a-b))):=by simp[tX]
@[simp] theorem atP:tX .mul (.int k a) (.int k b)=some (.int k (k.wrap (a*b))):=by simp[tX]
@[simp] theorem atS:tX .quo (.int k a) (.int k b)=if b≠0 then some (.int k (k.wrap (a.tdiv b)))else none:=by simp[tX]
@[simp] theorem atT:tX .rem (.int k a) (.int k b)=if b≠0 then some (.int k (a.tmod b))else none:=by simp[tX]
@[simp] theorem atU{k':IntKind}:tX .shl (.int k a) (.int k' b)=if b<0 then none else some (.int k (k.wrap (a*2^(min b.toNat k.bits)))):=aD rfl
@[simp] theorem atV{k':IntKind}:tX .shr (.int k a) (.int k' b)=if b<0 then none else some (.int k (a.fdiv (2^(min b.toNat k.bits)))):=aD rfl
@[simp] theorem axp:tX .or (.int k a) (.int k b)=some (.int k (k.wrap ((BitVec.ofInt k.bits a ||| BitVec.ofInt k.bits b).toNat:Int))):=by simp[tX]
@[simp] theorem atK:tX .eql (.int k a) (.int k b)=some (.bool (a == b)):=by simp[tX]
@[simp] theorem atQ:tX .neq (.int k a) (.int k b)=some (.bool (a != b)):=by simp[tX]
@[simp] theorem atO:tX .lss (.int k a) (.int k b)=some (.bool (decide (a<b))):=by simp[tX]
@[simp] theorem atN:tX .leq (.int k a) (.int k b)=some (.bool (decide (a≤b))):=by simp[tX]
@[simp] theorem atM:tX .gtr (.int k a) (.int k b)=some (.bool (decide (b<a))):=by simp[tX]
@[simp] theorem atL:tX .geq (.int k a) (.int k b)=some (.bool (decide (b≤a))):=by simp[tX]
end bins
@[simp] theorem aht:D.strip .undef=.undef:=aD rfl
@[simp] theorem amT{b:Bool}:D.strip (.bool b)=.bool b:=aD rfl
@[simp] theorem ar1{k:IntKind}{n:Int}:D.strip (.int k n)=.int k n:=aD rfl
@[simp] theorem ar4{s:List UInt8}:D.strip (.str s)=.str s:=aD rfl
@[simp] theorem arZ{cs:List D}:D.strip (.agg cs)=.agg cs:=aD rfl
@[simp] theorem ar5{cs:List D}:D.strip (.dV cs)=.dV cs:=aD rfl
@[simp] theorem ar3{l i v o:Nat}:D.strip (.ref l i v o)=.ref l i v o:=aD rfl
@[simp] theorem amU{cs:List D}:D.strip (.bB cs)=.bB cs:=aD rfl
@[simp] theorem amW:D.strip .aK=.aK:=aD rfl
@[simp] theorem ar2{n:Nat}{cs:List D}:D.strip (.aH n cs)=.aH n cs:=aD rfl
@[simp] theorem atm{l i v o n w:Nat}:D.strip (.sl l i v o n w)=.sl l i v o n w:=aD rfl
@[simp] theorem atl{f:Nat}{a b:List D}:D.strip (.fn f a b)=.fn f a b:=aD rfl
@[simp] theorem ar0{t:Nat}{d:D}:D.strip (.uH t d)=.uH t d:=aD rfl
@[simp] theorem amV:D.strip .pN=.pN:=aD rfl
@[simp] theorem as9{t:Nat}{d:D}:D.calm (.uH t d)=.uH t d:=aD rfl
@[simp] theorem arI:D.calm .pN=.pN:=aD rfl
@[simp] theorem ar6{l i:Nat}:D.strip (.l7 l i)=.l7 l i:=aD rfl
@[simp] theorem amL:D.calm .undef=.undef:=aD rfl
@[simp] theorem arG{b:Bool}:D.calm (.bool b)=.bool b:=aD rfl
@[simp] theorem ata{k:IntKind}{n:Int}:D.calm (.int k n)=.int k n:=aD rfl
@[simp] theorem ate{s:List UInt8}:D.calm (.str s)=.str s:=aD rfl
@[simp] theorem as8{cs:List D}:D.calm (.agg cs)=.agg cs:=aD rfl
@[simp] theorem atd{l i v o:Nat}:D.calm (.ref l i v o)=.ref l i v o:=aD rfl
@[simp] theorem arH{cs:List D}:D.calm (.bB cs)=.bB cs:=aD rfl
@[simp] theorem arJ:D.calm .aK=.aK:=aD rfl
@[simp] theorem atb{n:Nat}{cs:List D}:D.calm (.aH n cs)=.aH n cs:=aD rfl
@[simp] theorem avU{l i v o n w:Nat}:D.calm (.sl l i v o n w)=.sl l i v o n w:=aD rfl
@[simp] theorem avT{f:Nat}{a b:List D}:D.calm (.fn f a b)=.fn f a b:=aD rfl
@[simp] theorem atf{l i:Nat}:D.calm (.l7 l i)=.l7 l i:=aD rfl
@[simp] theorem atc{s:Nat}{cs:List D}:D.calm (.own s cs)=.own 0 cs:=aD rfl
@[simp] theorem amM{b:Bool}:D.cells (.bool b)=some [.bool b]:=aD rfl
@[simp] theorem arL{k:IntKind}{n:Int}:D.cells (.int k n)=some [.int k n]:=aD rfl
@[simp] theorem arO{s:List UInt8}:D.cells (.str s)=some [.str s]:=aD rfl
@[simp] theorem arK{cs:List D}:D.cells (.agg cs)=some cs:=aD rfl
@[simp] theorem arN{l i v o:Nat}:D.cells (.ref l i v o)=some [.ref l i v o]:=aD rfl
@[simp] theorem amN:D.cells .aK=some [.aK]:=aD rfl
@[simp] theorem arM{n:Nat}{cs:List D}:D.cells (.aH n cs)=some [.aH n cs]:=aD rfl
@[simp] theorem ath{l i v o n w:Nat}:D.cells (.sl l i v o n w)=some [.sl l i v o n w]:=aD rfl
@[simp] theorem atg{f:Nat}{a b:List D}:D.cells (.fn f a b)=some [.fn f a b]:=aD rfl
@[simp] theorem arP{l i:Nat}:D.cells (.l7 l i)=some [.l7 l i]:=aD rfl
@[simp] theorem avA{k:IntKind}{n:Int}:Ef (.int k n)=some n:=aD rfl
@[simp] theorem sK{O:bM}{kp:Bool}{f:Nat}{first cap args:List D}{σ:SK}:pQ O kp (.fn f first cap) args σ=R.bq (O (.call kp f (first++args++cap) σ)):=aD rfl
@[simp] theorem asH{O:bM}{kp:Bool}{l i:Nat}{args:List D}{σ:SK}:pQ O kp (.l7 l i) args σ=R.bq (O (.round l i args σ)):=aD rfl
@[simp] theorem awJ{d:D}{σ:SK}:R.bq (some (.val d σ))=some (d,σ):=aD rfl
section ops
variable {d:Option Nat} {n:Bool} {r:List Op} {e:Env} {σ:SK} {Q:Env→SK→Prop}
@[simp,simp ↓] theorem azk{x:bG}:WO O (⟨d,none,n,.mv x⟩::r) e σ Q=WO O r (put d (bg e x) e) σ Q:=by rw[dL rfl];simp[bH]
@[simp,simp ↓] theorem axf{w:Nat}:WO O (⟨d,none,n,.qh w⟩::r) e σ Q=WV (bH e σ (.qh w)) fun v σ'=>WO O r (put d v e) σ' Q:=dL rfl
@[simp,simp ↓] theorem ax3{nb:List (Nat×Nat)}{cs:List D}:WO O (⟨d,none,n,.Hg nb cs⟩::r) e σ Q=WV (bH e σ (.Hg nb cs)) fun v σ'=>WO O r (put d v e) σ' Q:=dL rfl
@[simp,simp ↓] theorem axg{c a b:bG}:WO O (⟨d,none,n,.pick c a b⟩::r) e σ Q=WD (Ll (bg e c)) fun t=>WO O r (put d (if t then bg e a else bg e b) e) σ Q:=by
 rw[dL rfl];simp only[bH];cases bg e c<;>simp[Ll]
@[simp,simp ↓] theorem aw6{x:bG}:WO O (⟨d,none,n,.Ir x⟩::r) e σ Q=WD (bg e x).cells fun cs=>WO O r (put d (.bB cs) e) σ Q:=by
 rw[dL rfl];simp only[bH];cases(bg e x).cells<;>simp
@[simp,simp ↓] theorem aw7{x:bG}:WO O (⟨d,none,n,.Is x⟩::r) e σ Q=WV (bH e σ (.Is x)) fun v σ'=>WO O r (put d v e) σ' Q:=dL rfl
@[simp,simp ↓] theorem aya{nb:List (Nat×Nat)}{x:bG}:WO O (⟨d,none,n,.bxn nb x⟩::r) e σ Q=WV (bH e σ (.bxn nb x)) fun v σ'=>WO O r (put d v e) σ' Q:=dL rfl
@[simp,simp ↓] theorem ax7{z:List D}{ps:List (Nat×Nat×bG)}:WO O (⟨d,none,n,.l9 z ps⟩::r) e σ Q=WD (sy e ps z) fun cs=>WO O r (put d (.agg cs) e) σ Q:=by
 rw[dL rfl];simp only[bH];cases sy e ps z<;>simp
@[simp,simp ↓] theorem ax8{m w:Nat}{z:List D}{ps:List (Nat×Nat×bG)}:WO O (⟨d,none,n,.uU m w z ps⟩::r) e σ Q=WD (sy e ps z) fun cs=>WO O r (put d (.aH m cs) e) σ Q:=by
 rw[dL rfl];simp only[bH];cases sy e ps z<;>simp
@[simp,simp ↓] theorem ax9{m w:Nat}{z:List D}{ps:List (Nat×Nat×bG)}:WO O (⟨d,none,n,.MX m w z ps⟩::r) e σ Q=WV (bH e σ (.MX m w z ps)) fun v σ'=>WO O r (put d v e) σ' Q:=dL rfl
@[simp,simp ↓] theorem azg{ag:Bool}{sz:Nat}{a:bG}:WO O (⟨d,none,n,.ld ag sz a⟩::r) e σ Q=WD (MY ag sz (Fq σ (bg e a))) fun v=>WO O r (put d v e) σ Q:=by
 rw[dL rfl];refine oc ?_;simp only[bH];cases Fq σ (bg e a)with
 |none=>rfl
 |some cs =>
  simp only[MY];split
  ·cases ag
   ·cases cs<;>rfl
   ·rfl
  ·rfl
theorem Q4{σ:SK}{l i off:Nat}:S3 σ (.ref l i 0 off)=Fq σ (.ref l i 0 off):=rfl
@[simp,simp ↓] theorem ayi{ag:Bool}{sz:Nat}{a:bG}:WO O (⟨d,none,n,.SY ag sz a⟩::r) e σ Q=WD (MY ag sz (S3 σ (bg e a))) fun v=>WO O r (put d v e) σ Q:=by
 rw[dL rfl];refine oc ?_;simp only[bH];cases S3 σ (bg e a)with
 |none=>rfl
 |some cs =>
  simp only[MY];split
  ·cases ag
   ·cases cs<;>rfl
   ·rfl
  ·rfl
@[simp,simp ↓] theorem ayj{ag:Bool}{sz:Nat}{a:bG}:WO O (⟨d,none,n,.SZ ag sz a⟩::r) e σ Q=WD (MY ag sz (T5 (bg e a))) fun v=>WO O r (put d v e) σ Q:=by
 rw[dL rfl];refine oc ?_;simp only[bH];cases bg e a with
 |bB cs =>
  simp only[T5,MY];split
  ·cases ag
   ·cases cs<;>rfl
   ·rfl
  ·rfl
 |_=>rfl
@[simp,simp ↓] theorem ayh{ps neg:Bool}{x:bG}:WO O (⟨d,none,n,.SX ps neg x⟩::r) e σ Q=WD (Ix ps (bg e x)) fun b=>WO O r (put d (.bool (if neg then !b else b)) e) σ Q:=by
 rw[dL rfl];simp only[bH];cases Ix ps (bg e x)<;>simp
@[simp,simp ↓] theorem ayo{x:bG}:WO O (⟨d,none,n,.mW x⟩::r) e σ Q=WD (avK (bg e x)) fun v=>WO O r (put d v e) σ Q:=by
 rw[dL rfl];refine oc ?_;simp only[bH];cases bg e x<;>rfl
@[simp,simp ↓] theorem azm{nb:List (Nat×Nat)}{sz:Nat}{a x:bG}:WO O (⟨d,none,n,.st nb sz a x⟩::r) e σ Q=WV (bH e σ (.st nb sz a x)) fun v σ'=>WO O r (put d v e) σ' Q:=dL rfl
@[simp,simp ↓] theorem ays{os:List Nat}{sz:Nat}{a x:bG}:WO O (⟨d,none,n,.MJ os sz a x⟩::r) e σ Q=WV (bH e σ (.MJ os sz a x)) fun v σ'=>WO O r (put d v e) σ' Q:=dL rfl
@[simp] theorem axF{l i l' i' v o:Nat}:D.off l i (.ref l' i' v o)=decide (¬(l'=l∧i'=i)):=by rw[D.off]
@[simp,simp ↓] theorem ayk{v:Nat}{ag:Bool}{sz a:Nat}:WO O (⟨d,none,n,.S0 v ag sz a⟩::r) e σ Q=WD (aeK e v ag sz a) fun v=>WO O r (put d v e) σ Q:=by
 rw[dL rfl];refine oc ?_;simp only[bH,aeK];cases sA e v a with
 |none=>rfl
 |some x =>
  obtain⟨s,cs,off⟩:=x;simp only[MY,aR];split
  ·cases ag
   ·cases cs.drop off<;>rfl
   ·rfl
  ·rfl
@[simp,simp ↓] theorem ax6{o:BinOp}{x y:bG}:WO O (⟨d,none,n,.bin o x y⟩::r) e σ Q=WD (tX o (bg e x) (bg e y)) fun v=>WO O r (put d v e) σ Q:=by
 rw[dL rfl];simp only[bH];cases tX o (bg e x) (bg e y)<;>simp
@[simp,simp ↓] theorem ayd{ag:Bool}{ks:List (Option IntKind)}{neg:Bool}{x y:bG}:WO O (⟨d,none,n,.eqv ag ks neg x y⟩::r) e σ Q=WD (an6 ag ks neg (bg e x) (bg e y)) fun v=>WO O r (put d v e) σ Q:=by
 rw[dL rfl];refine oc ?_;simp only[bH,an6];cases(bg e x).row ag<;>cases(bg e y).row ag<;>simp[Option.map_map,Function.comp_def]
@[simp,simp ↓] theorem azn{o:UnOp}{x:bG}:WO O (⟨d,none,n,.un o x⟩::r) e σ Q=WD (unD o (bg e x)) fun v=>WO O r (put d v e) σ Q:=by
 rw[dL rfl];refine oc ?_;simp only[bH];cases o<;>cases bg e x<;>rfl
@[simp,simp ↓] theorem ayc{k:IntKind}{x:bG}:WO O (⟨d,none,n,.J6 k x⟩::r) e σ Q=WD (anY k (bg e x)) fun v=>WO O r (put d v e) σ Q:=by
 rw[dL rfl];simp only[bH];cases bg e x<;>simp[anY]
@[simp,simp ↓] theorem ayq{p:Pu}{xs:List bG}:WO O (⟨d,none,n,.zf p xs⟩::r) e σ Q=WD (EH p (xs.map (bg e))) fun v=>WO O r (put d v e) σ Q:=by
 rw[dL rfl];simp only[bH];cases EH p (xs.map (bg e))<;>simp
@[simp,simp ↓] theorem azh{p:Me}{xs:List bG}:WO O (⟨d,none,n,.me p xs⟩::r) e σ Q=WV (NX σ p (xs.map (bg e))) fun v σ'=>WO O r (put d v e) σ' Q:=dL rfl
@[simp,simp ↓] theorem azj{p:Mo}{xs:List bG}:WO O (⟨d,none,n,.mp p xs⟩::r) e σ Q=WV (AY σ p (xs.map (bg e))) fun v σ'=>WO O r (put d v e) σ' Q:=dL rfl
@[simp,simp ↓] theorem aym{t:Nat}{x:bG}:WO O (⟨d,none,n,.mki t x⟩::r) e σ Q=WO O r (put d (.uH t (bg e x)) e) σ Q:=by rw[dL rfl];simp[bH]
@[simp,simp ↓] theorem ayu{t:Nat}{z:Option D}{x:bG}:WO O (⟨d,none,n,.tas t z x⟩::r) e σ Q=WD (Oq t z (bg e x)) fun v=>WO O r (put d v e) σ Q:=by
 rw[dL rfl];simp only[bH];cases Oq t z (bg e x)<;>simp
@[simp,simp ↓] theorem ayg{neg:Bool}{x:bG}:WO O (⟨d,none,n,.isi neg x⟩::r) e σ Q=WD (aeC (bg e x)) fun b=>WO O r (put d (.bool (if neg then !b else b)) e) σ Q:=by
 rw[dL rfl];simp only[bH];cases aeC (bg e x)<;>simp
@[simp] theorem asW:aeC .pN=some true:=aD rfl
@[simp] theorem avB{t:Nat}{d:D}:aeC (.uH t d)=some false:=aD rfl
@[simp] theorem awD{t t':Nat}{z d:D}:Oq t (some z) (.uH t' d)=some (if t'=t then .dV [d,.bool true]else .dV [z,.bool false]):=aD rfl
@[simp,simp ↓] theorem ayl{f:Nat}{xs ys:List bG}:WO O (⟨d,none,n,.xW f xs ys⟩::r) e σ Q=WO O r (put d (.fn f (xs.map (bg e)) (ys.map (bg e))) e) σ Q:=by rw[dL rfl];simp[bH]
@[simp,simp ↓] theorem ayn{w b:Nat}{z:List D}{l c:bG}:WO O (⟨d,none,n,.mks w b z l c⟩::r) e σ Q=WV (bH e σ (.mks w b z l c)) fun v σ'=>WO O r (put d v e) σ' Q:=dL rfl
@[simp,simp ↓] theorem ayr{w:Nat}{x:bG}{lo hi mx:Option bG}:WO O (⟨d,none,n,.IF w x lo hi mx⟩::r) e σ Q=WD (ast w (bg e x) e lo hi mx) fun v=>WO O r (put d v e) σ Q:=by
 rw[dL rfl];refine oc ?_;simp only[bH,ast];cases bg e x<;>first | rfl | (simp only[];split<;>simp[Option.map_map,Function.comp_def]) | simp[Option.map_map,Function.comp_def]
@[simp,simp ↓] theorem axa{off m:Nat}:WO O (⟨d,none,n,.Iu off (.t m)⟩::r) e σ Q=WD (LG m off (get e m)) fun v=>WO O r (put d v e) σ Q:=by
 rw[dL rfl];refine oc ?_;simp only[bH];cases get e m<;>rfl
@[simp,simp ↓] theorem axb{l w m:Nat}{i:bG}:WO O (⟨d,none,n,.Bw l w (.t m) i⟩::r) e σ Q=WD (QH m l w (get e m) (bg e i)) fun v=>WO O r (put d v e) σ Q:=by
 rw[dL rfl];refine oc ?_;simp only[bH,QH];cases Ef (bg e i)with
 |none=>rfl
 |some k=>simp only[];split<;>cases get e m<;>rfl
@[simp,simp ↓] theorem axc{w:Nat}{x i:bG}:WO O (⟨d,none,n,.fM w x i⟩::r) e σ Q=WD (QI w (bg e x) (bg e i)) fun v=>WO O r (put d v e) σ Q:=by
 rw[dL rfl];refine oc ?_;simp only[bH,QI];cases Ef (bg e i)with
 |none=>cases bg e x<;>rfl
 |some k=>cases bg e x<;>first | rfl | (simp only[];split<;>rfl)
@[simp,simp ↓] theorem axd{ag:Bool}{l w:Nat}{x i:bG}:WO O (⟨d,none,n,.Kf ag l w x i⟩::r) e σ Q=WD (aev ag l w (bg e x) (bg e i)) fun v=>WO O r (put d v e) σ Q:=by
 rw[dL rfl];refine oc ?_;simp only[bH,aev];cases Ef (bg e i)with
 |none=>cases bg e x<;>rfl
 |some k=>cases bg e x<;>first | rfl | (simp only[];split<;>cases ag<;>simp)
@[simp,simp ↓] theorem axe{x:bG}:WO O (⟨d,none,n,.Iy x⟩::r) e σ Q=WD (aeL (bg e x)) fun v=>WO O r (put d v e) σ Q:=by
 rw[dL rfl];refine oc ?_;simp only[bH];cases bg e x<;>rfl
@[simp,simp ↓] theorem azi{x y:bG}:WO O (⟨d,none,n,.mn x y⟩::r) e σ Q=WD (mnD (bg e x) (bg e y)) fun v=>WO O r (put d v e) σ Q:=by
 rw[dL rfl];refine oc ?_;simp only[bH];cases bg e x<;>cases bg e y<;>rfl
@[simp,simp ↓] theorem azl{x y:bG}:WO O (⟨d,none,n,.mx x y⟩::r) e σ Q=WD (mxD (bg e x) (bg e y)) fun v=>WO O r (put d v e) σ Q:=by
 rw[dL rfl];refine oc ?_;simp only[bH];cases bg e x<;>cases bg e y<;>rfl
@[simp,simp ↓] theorem ax4{os:List Nat}{w b:Nat}{s x:bG}:WO O (⟨d,none,n,.RN os w b s x⟩::r) e σ Q=WV (bH e σ (.RN os w b s x)) fun v σ'=>WO O r (put d v e) σ' Q:=dL rfl
@[simp,simp ↓] theorem ax5{w b:Nat}{s x:bG}:WO O (⟨d,none,n,.app w b s x⟩::r) e σ Q=WV (bH e σ (.app w b s x)) fun v σ'=>WO O r (put d v e) σ' Q:=dL rfl
@[simp,simp ↓] theorem ayb{w b:Nat}{x:bG}:WO O (⟨d,none,n,.T4 w b x⟩::r) e σ Q=WV (bH e σ (.T4 w b x)) fun v σ'=>WO O r (put d v e) σ' Q:=dL rfl
@[simp,simp ↓] theorem aye{x:bG}{i:Nat}:WO O (⟨d,none,n,.ext x i⟩::r) e σ Q=WD (aud (bg e x) i) fun v=>WO O r (put d v e) σ Q:=by
 rw[dL rfl];refine oc ?_;simp only[bH];cases bg e x<;>rfl
@[simp,simp ↓] theorem aw9{kp:Bool}{f:bG}{args:List bG}:WO O (⟨d,none,n,.call kp f args⟩::r) e σ Q =
  WV (pQ O kp (bg e f) (args.map (bg e)) σ) fun v σ'=>(n=true→σ'=σ)∧WO O r (put d v e) σ' Q:=by
 simp only[WO,mT,wg,WV,eq_iff_iff];cases hc:pQ O kp (bg e f) (args.map (bg e)) σ with
 |none=>simp
 |some y =>
  obtain⟨v,σ1⟩:=y;by_cases hn:n=true→σ1=σ
  ·simp only[if_pos hn,Option.bind_some,ae,ak];exact⟨fun h=>⟨v,σ1,⟨rfl,rfl⟩,hn,h⟩,fun⟨_,_,⟨h1,h2⟩,_,h⟩=>by subst h1 h2;exact h⟩
  ·simp only[if_neg hn,Option.bind_none,reduceCtorEq,false_and,exists_false,ae,ak,false_iff];rintro⟨_,_,⟨h1,h2⟩,h,_⟩;subst h1 h2;exact hn h
@[simp,simp ↓] theorem aw5{nb:List (Nat×Nat)}{cs:List D}:WO O (⟨d,none,n,.fm nb cs⟩::r) e σ Q=WD d fun v=>WD (lq nb cs σ) fun y=>WO O r ((v,.own (uP e v) y.1)::e) y.2 Q:=by
 cases d with
 |none=>simp[WO,mT,wg]
 |some v=>cases h:lq nb cs σ with
  |none=>simp[WO,mT,wg,h]
  |some y=>obtain⟨a,b⟩:=y;simp only[WO,mT,wg,h,Option.bind_some,DV]
@[simp,simp ↓] theorem aw8{x:bG}:WO O (⟨d,none,n,.E2 x⟩::r) e σ Q=WD d fun v=>WD (bg e x).cells fun cs=>WO O r ((v,.own (uP e v) cs)::e) σ Q:=by
 cases d with
 |none=>simp[WO,mT,wg]
 |some v=>cases h:(bg e x).cells with
  |none=>simp[WO,mT,wg,h]
  |some y=>simp only[WO,mT,wg,h,Option.bind_some,DV]
def asA(e:Env)(σ:SK)(v:Nat)(nb:List (Nat×Nat))(sz a:Nat)(x:bG):Option (D×SK) :=
 match sA e v a,(bg e x).cells with
 |some (s,cs,off),some p =>
  if p.length=sz∧off+sz≤cs.length then
   match lq nb p σ with
   |some (p',σ')=>some (.own s (cs.take off++p'++cs.drop (off+sz)),σ')
   |none=>none
  else none
 |_,_=>none
@[simp,simp ↓] theorem ayt{v:Nat}{nb:List (Nat×Nat)}{sz a:Nat}{x:bG}:WO O (⟨d,none,n,.Gt v nb sz a x⟩::r) e σ Q =
  WV (asA e σ v nb sz a x) fun y σ'=>WO O r ((v,y)::e) σ' Q:=by
 simp only[WO,mT,wg,asA];cases h1:sA e v a with
 |none=>simp
 |some p =>
  obtain⟨s,cs,off⟩:=p;cases h2:(bg e x).cells with
  |none=>simp
  |some p =>
   dsimp only;split
   ·cases h3:lq nb p σ with
    |none=>simp
    |some y=>obtain⟨a,b⟩:=y;simp[WO]
   ·simp
end ops
section code
variable {e:Env} {σ:SK} {Q:Exit→Env→SK→Prop}
@[simp,simp ↓] theorem axY:WC O .eo e σ Q=Q .normal e σ:=by
 simp only[WC,aW,ae,ak,eq_iff_iff];exact⟨fun⟨_,_,_,⟨h1,h2,h3⟩,h⟩=>by subst h1 h2 h3;exact h,fun h=>⟨_,_,_,⟨rfl,rfl,rfl⟩,h⟩⟩
@[simp,simp ↓] theorem axW{vs:List Nat}:WC O (.cJ vs) e σ Q=Q .normal (vj vs e σ).1 (vj vs e σ).2:=by
 simp only[WC,aW,ae,ak,eq_iff_iff];exact⟨fun⟨_,_,_,⟨h1,h2,h3⟩,h⟩=>by subst h1 h2 h3;exact h,fun h=>⟨_,_,_,⟨rfl,rfl,rfl⟩,h⟩⟩
@[simp,simp ↓] theorem aw3{i:Nat}:WC O (.exit i) e σ Q=Q (.exit i) e σ:=by
 simp only[WC,aW,ae,ak,eq_iff_iff];exact⟨fun⟨_,_,_,⟨h1,h2,h3⟩,h⟩=>by subst h1 h2 h3;exact h,fun h=>⟨_,_,_,⟨rfl,rfl,rfl⟩,h⟩⟩
@[simp,simp ↓] theorem ax0:WC O .ret e σ Q=Q .ret e σ:=by
 simp only[WC,aW,ae,ak,eq_iff_iff];exact⟨fun⟨_,_,_,⟨h1,h2,h3⟩,h⟩=>by subst h1 h2 h3;exact h,fun h=>⟨_,_,_,⟨rfl,rfl,rfl⟩,h⟩⟩
@[simp,simp ↓] theorem axZ{live:List Nat}{ops:List Op}:WC O (.cr live ops) e σ Q=WO O ops e σ fun e' σ'=>Q .normal (restrict live e') σ':=by
 simp only[WC,aW,WO,ad,ak,eq_iff_iff];constructor
 ·rintro⟨x,e',σ',⟨⟨e1,σ1⟩,h1,rfl,rfl,rfl⟩,h⟩;exact⟨e1,σ1,h1,h⟩
 ·rintro⟨e',σ',h1,h⟩;exact⟨_,_,_,⟨⟨e',σ'⟩,h1,rfl,rfl,rfl⟩,h⟩
def MP(O:bM)(b:cF)(Q:Exit→Env→SK→Prop)(_m:Mark b:=.mk)(_m':Mark Q:=.mk):Exit→Env→SK→Prop
 |.normal,e,σ=>WC O b e σ Q
 |.exit i,e,σ=>Q (.exit i) e σ
 |.ret,e,σ=>Q .ret e σ
 |.gf d,e,σ=>Q (.gf d) e σ
@[simp,simp ↓] theorem ato{b:cF}{d:D}:MP O b Q .mk .mk (.gf d) e σ=Q (.gf d) e σ:=aD rfl
@[simp,simp ↓] theorem ahO{b:cF}:MP O b Q .mk .mk .normal e σ=WC O b e σ Q:=aD rfl
@[simp,simp ↓] theorem asD{b:cF}{i:Nat}:MP O b Q .mk .mk (.exit i) e σ=Q (.exit i) e σ:=aD rfl
@[simp,simp ↓] theorem atn{b:cF}:MP O b Q .mk .mk .ret e σ=Q .ret e σ:=aD rfl
@[simp,simp ↓] theorem ax1{a b:cF}:WC O (.seq a b) e σ Q=WC O a e σ (MP O b Q .mk .mk):=by
 simp only[WC,aW,ah,eq_iff_iff];constructor
 ·rintro⟨x,e',σ',⟨⟨x1,e1,σ1⟩,h1,h2⟩,h⟩;refine⟨x1,e1,σ1,h1,?_⟩;cases x1 with
  |normal=>exact⟨x,e',σ',h2,h⟩
  |exit i=>cases h2;exact h
  |ret=>cases h2;exact h
  |gf d=>cases h2;exact h
 ·rintro⟨x1,e1,σ1,h1,h⟩;cases x1 with
  |normal=>obtain⟨x,e',σ',h2,h3⟩:=h;exact⟨x,e',σ',⟨_,h1,h2⟩,h3⟩
  |exit i=>exact⟨_,_,_,⟨_,h1,rfl⟩,h⟩
  |ret=>exact⟨_,_,_,⟨_,h1,rfl⟩,h⟩
  |gf d=>exact⟨_,_,_,⟨_,h1,rfl⟩,h⟩
@[simp,simp ↓] theorem axX{c:bG}{a b:cF}:WC O (.ite c a b) e σ Q=WD (Ll (bg e c)) fun t=>if t=true then WC O a e σ Q else WC O b e σ Q:=by
 simp only[WC,aW];cases bg e c<;>simp[Ll];rename_i t;cases t<;>simp
def N3(id:Nat)(Q:Exit→Env→SK→Prop)(_m:Mark Q:=.mk):Exit→Env→SK→Prop
 |.normal,e,σ=>Q .normal e σ
 |.exit i,e,σ=>if i=id then Q .normal e σ else Q (.exit i) e σ
 |.ret,e,σ=>Q .ret e σ
 |.gf d,e,σ=>Q (.gf d) e σ
@[simp,simp ↓] theorem avQ{id:Nat}{d:D}:N3 id Q .mk (.gf d) e σ=Q (.gf d) e σ:=aD rfl
@[simp,simp ↓] theorem amJ{id:Nat}:N3 id Q .mk .normal e σ=Q .normal e σ:=aD rfl
@[simp,simp ↓] theorem as7{id i:Nat}:N3 id Q .mk (.exit i) e σ=if i=id then Q .normal e σ else Q (.exit i) e σ:=aD rfl
@[simp,simp ↓] theorem avP{id:Nat}:N3 id Q .mk .ret e σ=Q .ret e σ:=aD rfl
@[simp,simp ↓] theorem axV{id:Nat}{a:cF}:WC O (.bO id a) e σ Q=WC O a e σ (N3 id Q .mk):=by
 simp only[WC,aW,ad,eq_iff_iff];constructor
 ·rintro⟨x,e',σ',⟨⟨x1,e1,σ1⟩,h1,h2⟩,h⟩;refine⟨x1,e1,σ1,h1,?_⟩;cases x1 with
  |normal=>cases h2;exact h
  |exit i =>
   simp only[N3];dsimp only at h2;split at h2<;>cases h2
   ·rw[if_pos (by assumption)];exact h
   ·rw[if_neg (by assumption)];exact h
  |ret=>cases h2;exact h
  |gf d=>cases h2;exact h
 ·rintro⟨x1,e1,σ1,h1,h⟩;cases x1 with
  |normal=>exact⟨_,_,_,⟨_,h1,rfl⟩,h⟩
  |exit i =>
   simp only[N3]at h;split at h
   ·exact⟨_,_,_,⟨_,h1,by dsimp only;rw[if_pos (by assumption)]⟩,h⟩
   ·exact⟨_,_,_,⟨_,h1,by dsimp only;rw[if_neg (by assumption)]⟩,h⟩
  |ret=>exact⟨_,_,_,⟨_,h1,rfl⟩,h⟩
  |gf d=>exact⟨_,_,_,⟨_,h1,rfl⟩,h⟩
theorem RV(d:D):d.calm.calm=d.calm:=by cases d<;>rfl
theorem IB{live:List Nat}{e:Env}{t:Nat}:get (restrict live e) t=if t∈live then(get e t).calm else .undef:=by
 induction live with
 |nil=>simp[restrict,get]
 |cons a l ih =>
  simp only[restrict,aL,get,bd];by_cases h:a=t
  ·subst h;simp
  ·have h':¬t=a:=fun x=>h x.symm
   simp only[if_neg h,h',false_or];exact ih
theorem yy{live:List Nat}{e:Env}:restrict live (restrict live e)=restrict live e:=by
 simp only[restrict,List.map_inj_left,ak,true_and];intro t ht;have:=IB (live:=live) (e:=e) (t:=t);simp only[restrict]at this;rw[this,if_pos ht,RV]
theorem wK{live:List Nat}{bj:Bool}{c:cF}:dB T O (.loop live bj c (restrict live e) σ)=dB T O (.loop live bj c e σ):=by
 simp only[dB,yy]
theorem yp{live:List Nat}{bj:Bool}{c:cF}{r:R}(h:lim T (.loop live bj c (restrict live e) σ)=some r):lim T (.loop live bj c e σ)=some r:=by
 obtain⟨n,h⟩:=dH.1 h;cases n with
 |zero=>cases h
 |succ n =>
  rw[it,wK]at h;exact dH.2 ⟨n+1,h⟩
theorem Dq{live:List Nat}{bj:Bool}{c:cF}{r:R}(h:lim T (.loop live bj c e σ)=some r):lim T (.loop live bj c (restrict live e) σ)=some r:=by
 obtain⟨n,h⟩:=dH.1 h;cases n with
 |zero=>cases h
 |succ n =>
  rw[it,← wK]at h;exact dH.2 ⟨n+1,h⟩
theorem NC{r:Option R}{x:Exit}{e:Env}{σ:SK}(h:R.RY r=some (x,e,σ)):r=some (.CJ x e σ):=by
 unfold R.RY at h;split at h
 ·cases h;rfl
 ·cases h
@[simp,simp ↓] theorem aw4{live:List Nat}{bj:Bool}{c:cF}:WC (lim T) (.loop live bj c) e σ Q=WL T live bj c (restrict live e) σ Q:=by
 simp only[WC,aW,WL,eq_iff_iff];constructor
 ·rintro⟨x,e',σ',h1,h⟩;cases hl:lim T (.loop live bj c e σ)with
  |none=>rw[hl]at h1;cases h1
  |some r =>
   rw[hl]at h1;cases r<;>cases h1;exact⟨_,_,_,Dq hl,h⟩
 ·rintro⟨x,e',σ',h1,h⟩;exact⟨x,e',σ',by rw[yp h1];rfl,h⟩
def Mn(T:yR)(live:List Nat)(c:cF)(Q:Exit→Env→SK→Prop)(_m:Mark c:=.mk)(_m':Mark Q:=.mk):Exit→Env→SK→Prop
 |.normal,e,σ=>WL T live false c (restrict live e) σ Q
 |.exit i,e,σ=>Q (.exit i) e σ
 |.ret,e,σ=>Q .ret e σ
 |.gf d,e,σ=>Q (.gf d) e σ
@[simp,simp ↓] theorem as5{live:List Nat}{c:cF}{d:D}:Mn T live c Q .mk .mk (.gf d) e σ=Q (.gf d) e σ:=aD rfl
@[simp,simp ↓] theorem ahg{live:List Nat}{c:cF}:Mn T live c Q .mk .mk .normal e σ=WL T live false c (restrict live e) σ Q:=aD rfl
@[simp,simp ↓] theorem arw{live:List Nat}{c:cF}{i:Nat}:Mn T live c Q .mk .mk (.exit i) e σ=Q (.exit i) e σ:=aD rfl
@[simp,simp ↓] theorem as4{live:List Nat}{c:cF}:Mn T live c Q .mk .mk .ret e σ=Q .ret e σ:=aD rfl
theorem aM{live:List Nat}{c c':cF}(hc:c=c')(h:WC (lim T) c' (restrict live e) σ (Mn T live c Q .mk .mk)):WL T live false c e σ Q:=by
 rw[← hc]at h;obtain⟨x,e1,σ1,h1,h2⟩:=h;cases x with
 |normal =>
  obtain⟨x,e',σ',h3,h4⟩:=h2;exact⟨x,e',σ',iy (by simp[dB,h1,yp h3]),h4⟩
 |exit i=>exact⟨_,_,_,iy (by simp[dB,h1]),h2⟩
 |ret=>exact⟨_,_,_,iy (by simp[dB,h1]),h2⟩
 |gf d=>exact⟨_,_,_,iy (by simp[dB,h1]),h2⟩
def R9(σ:SK)(res:List DG)(d:D)(x:Exit)(e:Env)(σ1:SK):Prop :=
 (∀i,x ≠ .exit i)∧(∀d,x ≠ .gf d)∧∃ds,zD e σ1 res=some ds∧∃s,cJ (σ.length-1) deep (uI ds) σ1=(d,s::σ)
@[simp,simp ↓] theorem ah7{σ1:SK}{res:List DG}{d:D}:R9 σ res d .normal e σ1=∃ds,zD e σ1 res=some ds∧∃s,cJ (σ.length-1) deep (uI ds) σ1=(d,s::σ):=by simp[R9]
@[simp,simp ↓] theorem at7{σ1:SK}{res:List DG}{d:D}:R9 σ res d .ret e σ1=∃ds,zD e σ1 res=some ds∧∃s,cJ (σ.length-1) deep (uI ds) σ1=(d,s::σ):=by simp[R9]
theorem aw{f:Nat}{fn:Fn}{args:List D}{σ:SK}{d:D}{np:Nat}{res:List DG}{body:cF}(hT:T f=some fn)(hf:fn=⟨np,res,body⟩)(hl:args.length=np)
  (h:WC (lim T) body (nU 0 args) ([]::σ) (R9 σ res d)):
  lim T (.call false f args σ)=some (.val d σ):=by
 subst hf;obtain⟨x,e1,σ1,h1,h2,h2',ds,h3,s,h4⟩:=h;refine iy ?_;simp only[dB,hT,if_pos hl,av,if_false,h1];cases x with
 |exit i=>exact absurd rfl (h2 i)
 |gf d=>exact absurd rfl (h2' d)
 |normal=>simp[h3,h4]
 |ret=>simp[h3,h4]
def an3(σ:SK)(d:D)(x:Exit)(e:Env)(σ1:SK):Prop:=x=.gf d∧d.clean=true∧∃s,σ1=s::σ
@[simp,simp ↓] theorem aub{σ1:SK}{d d':D}:an3 σ d (.gf d') e σ1=(d'=d∧d.clean=true∧∃s,σ1=s::σ):=by simp[an3]
theorem ep{f:Nat}{fn:Fn}{args:List D}{σ:SK}{d:D}{np:Nat}{res:List DG}{body:cF}(hT:T f=some fn)(hf:fn=⟨np,res,body⟩)(hl:args.length=np)
  (h:WC (lim T) body (nU 0 args) ([]::σ) (an3 σ d)):
  lim T (.call false f args σ)=some (.gf d σ):=by
 subst hf;obtain⟨x,e1,σ1,h1,rfl,hc,s,rfl⟩:=h;refine iy ?_;simp only[dB,hT,if_pos hl,av,if_false,h1];simp[Ot,hc]
def WR(r:Option R)(Qn Qt:D→SK→Prop)(_m:Mark Qn:=.mk)(_m':Mark Qt:=.mk):Prop:=(∃d σ',r=some (.val d σ')∧Qn d σ')∨∃d σ',r=some (.gf d σ')∧Qt d σ'
@[simp,simp ↓] theorem anL{d:D}{σ':SK}{Qn Qt:D→SK→Prop}:WR (some (.val d σ')) Qn Qt=Qn d σ':=by
 simp only[WR,ae,R.val.injEq,reduceCtorEq,false_and,exists_false,or_false,eq_iff_iff];exact⟨fun⟨_,_,⟨h1,h2⟩,h⟩=>by subst h1 h2;exact h,fun h=>⟨_,_,⟨rfl,rfl⟩,h⟩⟩
@[simp,simp ↓] theorem anK{d:D}{σ':SK}{Qn Qt:D→SK→Prop}:WR (some (.gf d σ')) Qn Qt=Qt d σ':=by
 simp only[WR,ae,R.gf.injEq,reduceCtorEq,false_and,exists_false,false_or,eq_iff_iff];exact⟨fun⟨_,_,⟨h1,h2⟩,h⟩=>by subst h1 h2;exact h,fun h=>⟨_,_,⟨rfl,rfl⟩,h⟩⟩
def arD:D→Option D
 |.uH t d=>if d.clean then some (.uH t d)else none
 |_=>none
@[simp] theorem Mq{t:Nat}{d:D}:arD (.uH t d)=if d.clean then some (.uH t d)else none:=aD rfl
@[simp] theorem at2{O:bM}{f:Nat}{first cap args:List D}{σ:SK}:AE O (.fn f first cap) args σ=O (.call false f (first++args++cap) σ):=aD rfl
@[simp,simp ↓] theorem agy{live:List Nat}{pre post:List Op}{dst:Option Nat}{n:Bool}{f:bG}{args:List bG}:WC O (.iY live pre ⟨dst,none,n,.call false f args⟩ post) e σ Q =
  WO O pre e σ fun e1 σ1=>WR (AE O (bg e1 f) (args.map (bg e1)) σ1) (fun d σ2=>WO O post (put dst d e1) σ2 fun e' σ'=>Q .normal (restrict live e') σ') (fun d σ2=>Q (.gf d) e1 σ2):=by
 simp only[WC,WO,aW,Gl,ah,eq_iff_iff];constructor
 ·rintro⟨x,e',σ',⟨⟨e1,σ1⟩,h1,h2⟩,h⟩;refine⟨e1,σ1,h1,?_⟩;dsimp only at h2;cases hc:AE O (bg e1 f) (args.map (bg e1)) σ1 with
  |none=>rw[hc]at h2;simp[uZ]at h2
  |some r =>
   rw[hc]at h2;cases r with
   |CJ=>simp[uZ]at h2
   |gf d σ2=>simp only[uZ,ae,ak]at h2;obtain⟨rfl,rfl,rfl⟩:=h2;rw[anK];exact h
   |val d σ2 =>
    simp only[uZ,ad]at h2;obtain⟨⟨e3,σ3⟩,h3,h4⟩:=h2;cases h4;rw[anL];exact⟨e3,σ3,h3,h⟩
 ·rintro⟨e1,σ1,h1,h⟩;rcases h with⟨d,σ2,h2,e3,σ3,h3,h4⟩ | ⟨d,σ2,h2,h4⟩
  ·exact⟨.normal,_,σ3,⟨(e1,σ1),h1,by simp only[h2,uZ,h3,aR]⟩,h4⟩
  ·exact⟨.gf d,e1,σ2,⟨(e1,σ1),h1,by simp only[h2,uZ]⟩,h4⟩
@[simp,simp ↓] theorem ah4{live:List Nat}{pre post:List Op}{dst:Option Nat}{n:Bool}{x:bG}:WC O (.iY live pre ⟨dst,none,n,.MZ x⟩ post) e σ Q =
  WO O pre e σ fun e1 σ1=>WD (arD (bg e1 x)) fun d=>Q (.gf d) e1 σ1:=by
 simp only[WC,WO,aW,Gl,ah,eq_iff_iff];constructor
 ·rintro⟨x',e',σ',⟨⟨e1,σ1⟩,h1,h2⟩,h⟩;refine⟨e1,σ1,h1,?_⟩;dsimp only at h2;cases hx:bg e1 x<;>rw[hx]at h2<;>try (cases h2;done)
  dsimp only at h2;split at h2
  ·rename_i hc;cases h2;simp only[Mq,hc,if_true,DV];exact h
  ·cases h2
 ·rintro⟨e1,σ1,h1,d,h2,h⟩;refine⟨.gf d,e1,σ1,⟨(e1,σ1),h1,?_⟩,h⟩;dsimp only;cases hx:bg e1 x<;>rw[hx]at h2<;>try (cases h2;done)
  simp only[Mq]at h2;split at h2
  ·rename_i hc;cases h2;simp[hc]
  ·cases h2
def WM(T:yR)(live:List Nat)(it:bG)(nx ok b:Nat)(c rest:cF)(e:Env)(σ:SK)(Q:Exit→Env→SK→Prop)(_m:Mark c:=.mk)(_m':Mark rest:=.mk)(_m'':Mark Q:=.mk):Prop:=∃x e' σ',lim T (.ji live it nx ok b c rest e σ)=some (.CJ x e' σ')∧Q x e' σ'
theorem WM.mono{live:List Nat}{it:bG}{nx ok b:Nat}{c rest:cF}{Q':Exit→Env→SK→Prop}(h:WM T live it nx ok b c rest e σ Q)(hq:∀x e σ,Q x e σ→Q' x e σ):WM T live it nx ok b c rest e σ Q' :=
 let ⟨x,e',σ',h1,h2⟩:=h;⟨x,e',σ',h1,hq _ _ _ h2⟩
theorem v8{live:List Nat}{it:bG}{nx ok b:Nat}{c rest:cF}:dB T O (.ji live it nx ok b c rest (restrict live e) σ)=dB T O (.ji live it nx ok b c rest e σ):=by
 simp only[dB,yy]
theorem tH{live:List Nat}{it:bG}{nx ok b:Nat}{c rest:cF}{r:R}:lim T (.ji live it nx ok b c rest (restrict live e) σ)=some r↔lim T (.ji live it nx ok b c rest e σ)=some r:=by
 constructor<;>intro h<;>obtain⟨n,h⟩:=dH.1 h<;>cases n<;>first | (cases h;done) | skip
 ·rw[Abs.it,v8]at h;exact dH.2 ⟨_+1,h⟩
 ·rw[Abs.it,← v8]at h;exact dH.2 ⟨_+1,h⟩
@[simp,simp ↓] theorem atG{live:List Nat}{it:bG}{nx ok b:Nat}{c rest:cF}:WC (lim T) (.ji live it nx ok b c rest) e σ Q=WM T live it nx ok b c rest (restrict live e) σ Q:=by
 simp only[WC,aW,WM,eq_iff_iff];constructor
 ·rintro⟨x,e',σ',h1,h⟩;exact⟨_,_,_,tH.2 (NC h1),h⟩
 ·rintro⟨x,e',σ',h1,h⟩;exact⟨x,e',σ',by rw[tH.1 h1];rfl,h⟩
def Jq(T:yR)(live:List Nat)(it:bG)(l i nx ok b:Nat)(c rest:cF)(r:R)(_m:Mark c:=.mk)(_m':Mark rest:=.mk):Exit→Env→SK→Prop
 |.normal,e,σ=>lim T (.ji live it nx ok b c rest (restrict live e) σ)=some r
 |.exit j,e,σ=>if j=b then WC (lim T) rest e (aV σ l i .dead) fun x e' σ'=>r=.CJ x e' σ' else r=.CJ (.exit j) e (aV σ l i .dead)
 |.ret,e,σ=>r=.CJ .ret e (aV σ l i .dead)
 |.gf _,_,_=>False
@[simp,simp ↓] theorem ahh{live:List Nat}{it:bG}{l i nx ok b:Nat}{c rest:cF}{r:R}:Jq T live it l i nx ok b c rest r .mk .mk .normal e σ=(lim T (.ji live it nx ok b c rest (restrict live e) σ)=some r):=aD rfl
@[simp,simp ↓] theorem N0{live:List Nat}{it:bG}{l i nx ok b j:Nat}{c rest:cF}{r:R}:Jq T live it l i nx ok b c rest r .mk .mk (.exit j) e σ=if j=b then WC (lim T) rest e (aV σ l i .dead) fun x e' σ'=>r=.CJ x e' σ' else r=.CJ (.exit j) e (aV σ l i .dead):=aD rfl
@[simp,simp ↓] theorem Sy{live:List Nat}{it:bG}{l i nx ok b:Nat}{c rest:cF}{r:R}:Jq T live it l i nx ok b c rest r .mk .mk .ret e σ=(r=.CJ .ret e (aV σ l i .dead)):=aD rfl
theorem Ki{l i b:Nat}{rest:cF}{r:R}{x:Exit}{e1:Env}{σ1:SK}{live:List Nat}{it:bG}{nx ok:Nat}{c:cF}(hx:x ≠ .normal)(h:Jq T live it l i nx ok b c rest r .mk .mk x e1 σ1):xC (lim T) l i b rest (some (x,e1,σ1))=some r:=by
 cases x with
 |normal=>exact absurd rfl hx
 |gf d=>exact h.elim
 |ret=>simp only[Sy]at h;subst h;rfl
 |exit j =>
  simp only[N0]at h;simp only[xC];split at h
  ·rename_i hj;obtain⟨x',e',σ',h1,rfl⟩:=h;rw[if_pos hj,h1];rfl
  ·rename_i hj;subst h;rw[if_neg hj]
theorem aeX{live:List Nat}{it:bG}{l i nx ok b:Nat}{c c' rest rest':cF}{r:R}{m:D}{n:Nat}{js:List D}{us:List Nat}(hcc:c=c')(hrr:rest=rest')(hit:bg (restrict live e) it=.l7 l i)(hd:F1 σ l i=some (m,n,js,us))(hne:us≠[])
  (h:∀u∈us,WC (lim T) c' ((ok,.bool true)::(nx,.undef)::restrict live e) (aV σ l i (.cells 1 (m::.int .i64 (n:Nat)::.int .i64 (u:Nat)::js))) (Jq T live it l i nx ok b c rest' r .mk .mk)):
  lim T (.ji live it nx ok b c rest e σ)=some r:=by
 subst hcc hrr;refine iy ?_;simp only[dB,hit,hd];have key:∀u∈us,AH (lim T) live it l i nx ok b c rest (aW (lim T) c ((ok,.bool true)::(nx,.undef)::restrict live e) (aV σ l i (.cells 1 (m::.int .i64 (n:Nat)::.int .i64 (u:Nat)::js))))=some r:=by
  intro u hu;obtain⟨x,e1,σ1,h1,h2⟩:=h u hu;rw[h1];cases x with
  |normal=>exact tH.1 h2
  |exit j=>exact Ki (x:=.exit j) (by simp) h2
  |ret=>exact Ki (x:=.ret) (by simp) h2
  |gf d=>exact h2.elim
 cases us with
 |nil=>exact absurd rfl hne
 |cons u us=>exact IX (by simp) key
theorem Su{live:List Nat}{it:bG}{l i nx ok b:Nat}{c c' rest rest':cF}{r:R}{m:D}{n:Nat}{js:List D}(hcc:c=c')(hrr:rest=rest')(hit:bg (restrict live e) it=.l7 l i)(hd:F1 σ l i=some (m,n,js,[]))
  (h:WC (lim T) c' ((ok,.bool false)::(nx,.undef)::restrict live e) σ fun x e1 σ1=>x ≠ .normal∧Jq T live it l i nx ok b c rest' r .mk .mk x e1 σ1):
  lim T (.ji live it nx ok b c rest e σ)=some r:=by
 subst hcc hrr;refine iy ?_;simp only[dB,hit,hd];obtain⟨x,e1,σ1,h1,hx,h2⟩:=h;rw[h1];exact Ki hx h2
def asC:Exit→Option (Option D)
 |.normal=>some none
 |.ret=>some none
 |.gf d=>some (some d)
 |.exit _=>none
@[simp] theorem awF:asC .ret=some none:=aD rfl
@[simp] theorem awG{d:D}:asC (.gf d)=some (some d):=aD rfl
noncomputable def wh(T:yR)(fv:D)(args:List D)(th:Option D)(σ:SK):Option SK :=
 match rJ (lim T) fv args th σ with
 |some (.val _ σ')=>some σ'
 |_=>none
theorem vf{f:Nat}{first cap args:List D}{th:Option D}{σ σ':SK}{d:D}(h:lim T (.yc f (first++args++cap) th σ)=some (.val d σ')):wh T (.fn f first cap) args th σ=some σ':=by
 simp only[wh,rJ,h]
def AV(T:yR)(fv:D)(args:List D)(σ:SK)(res:List DG)(d:D)(x:Exit)(e:Env)(σ1:SK):Prop :=
 WD (asC x) fun th=>WD (wh T fv args th σ1) fun σ2=>∃ds,zD e σ2 res=some ds∧∃s,cJ (σ.length-1) deep (uI ds) σ2=(d,s::σ)
def KL(T:yR)(f:bG)(args:List bG)(q:cF)(σ:SK)(res:List DG)(d:D)(x:Exit)(e:Env)(σ1:SK)(_m:Mark q:=.mk):Prop :=
 x=.normal∧WC (lim T) q e σ1 (AV T (bg e f) (args.map (bg e)) σ res d)
theorem Ln{f:Nat}{fn:Fn}{args:List D}{σ:SK}{d:D}{np:Nat}{res:List DG}{body A q:cF}{fo:bG}{as:List bG}(hT:T f=some fn)(hf:fn=⟨np,res,body⟩)(hl:args.length=np)(hs:jl body=some (A,fo,as,q))
  (h:WC (lim T) A (nU 0 args) ([]::σ) (KL T fo as q σ res d)):
  lim T (.call false f args σ)=some (.val d σ):=by
 subst hf;obtain⟨x,e1,σ1,h1,rfl,x2,e2,σ2,h2,th,h3,σ3,h4,ds,h5,s,h6⟩:=h;refine iy ?_;have hn:aW (lim T) body (nU 0 args) ([]::σ)=none:=yA hs h1;simp only[dB,hT,if_pos hl,av,if_false,hn,hs,zn,h1,h2];have h4':∃dv,rJ (lim T) (bg e1 fo) (as.map (bg e1)) th σ2=some (.val dv σ3):=by
  unfold wh at h4;split at h4
  ·rename_i h7;cases h4;exact⟨_,h7⟩
  ·cases h4
 obtain⟨dv,h4'⟩:=h4';cases x2 with
 |exit i=>cases h3
 |normal=>cases h3;simp only[zp,h4',vg,leave,h5,h6]
 |ret=>cases h3;simp only[zp,h4',vg,leave,h5,h6]
 |gf d=>cases h3;simp only[zp,h4',vg,leave,h5,h6]
def an4(σ':SK)(res:List DG)(x:Exit)(e:Env)(σ1:SK):Prop :=
 (∀i,x ≠ .exit i)∧(∀d,x ≠ .gf d)∧zD e σ1 res=some []∧∃s,σ1=s::σ'
@[simp,simp ↓] theorem ah9{σ' σ1:SK}{res:List DG}:an4 σ' res .normal e σ1=(zD e σ1 res=some []∧∃s,σ1=s::σ'):=by simp[an4]
theorem Bm{f:Nat}{fn:Fn}{args:List D}{th:Option D}{σ σ':SK}{np:Nat}{res:List DG}{body q:cF}{e0:Env}(hT:T f=some fn)(hf:fn=⟨np,res,body⟩)(hl:args.length=np)(hr:sJ th args body=some (e0,q))
  (h:WC (lim T) q e0 ([]::σ) (an4 σ' res)):lim T (.yc f args th σ)=some (.val (.dV []) σ'):=by
 subst hf;obtain⟨x,e1,σ1,h1,h2,h2',h3,s,rfl⟩:=h;refine iy ?_;simp only[dB,hT,if_pos hl,hr,h1];cases x with
 |exit i=>exact absurd rfl (h2 i)
 |gf d=>exact absurd rfl (h2' d)
 |normal=>simp[h3]
 |ret=>simp[h3]
end code
@[simp] theorem avy{k t:Nat}{v:D}{r:Env}:get ((k,v)::r) t=if k=t then v else get r t:=aD rfl
@[simp] theorem avS{t:Nat}{v:D}{e:Env}:put (some t) v e=(t,v)::e:=aD rfl
@[simp] theorem avR{v:D}{e:Env}:put none v e=e:=aD rfl
@[simp] theorem avO{e:Env}{n:Nat}:bg e (.t n)=(get e n).strip:=aD rfl
@[simp] theorem azR{e:Env}{d:D}:bg e (.c d)=d:=aD rfl
@[simp] theorem ahr{e:Env}:restrict [] e=[]:=aD rfl
@[simp] theorem afM{t:Nat}{l:List Nat}{e:Env}:restrict (t::l) e=(t,(get e t).calm)::restrict l e:=aD rfl
@[simp] theorem as0{n:Nat}:nU n []=[]:=aD rfl
@[simp] theorem arq{n:Nat}{d:D}{ds:List D}:nU n (d::ds)=(n,d)::nU (n+1) ds:=aD rfl
section
variable {e:Env} {σ:SK}
@[simp] theorem avY:zD e σ []=some []:=aD rfl
@[simp] theorem atk{r:DG}{rs:List DG}:zD e σ (r::rs)=(HV e σ r).bind fun d=>(zD e σ rs).map fun ds=>d::ds:=aD rfl
@[simp] theorem ayQ{n:Nat}:HV e σ (.t n)=some (get e n).strip:=aD rfl
@[simp] theorem ayP{n sz:Nat}{ag:Bool}:HV e σ (.c n ag sz)=MY ag sz (Fq σ (get e n).strip):=by
 simp only[HV,bH,avO];cases Fq σ (get e n).strip with
 |none=>rfl
 |some cs =>
  simp only[MY];split
  ·cases ag
   ·cases cs<;>rfl
   ·rfl
  ·rfl
@[simp] theorem ayR{n sz:Nat}{ag:Bool}:HV e σ (.v n ag sz)=aeK e n ag sz n:=by
 simp only[HV,bH,aeK];cases sA e n n with
 |none=>rfl
 |some x =>
  obtain⟨s,cs,off⟩:=x;simp only[MY,aR];split
  ·cases ag
   ·cases cs.drop off<;>rfl
   ·rfl
  ·rfl
@[simp] theorem as2{d:D}:uI [d]=d:=aD rfl
@[simp] theorem as1:uI []=.dV []:=aD rfl
@[simp] theorem as3{d d':D}{ds:List D}:uI (d::d'::ds)=.dV (d::d'::ds):=aD rfl
@[simp] theorem asO{cs:List D}:sy e [] cs=some cs:=aD rfl
@[simp] theorem arf{off sz:Nat}{x:bG}{r:List (Nat×Nat×bG)}{cs:List D}:sy e ((off,sz,x)::r) cs =
  ((bg e x).cells.bind fun p=>if p.length=sz∧off+sz≤cs.length then some (cs.take off++p++cs.drop (off+sz))else none).bind (sy e r):=by
 simp only[sy];cases(bg e x).cells with
 |none=>rfl
 |some p=>dsimp only [Option.bind_some];split<;>rfl
@[simp] theorem asJ{w:Nat}{s:List UInt8}:elems σ w (.str s)=if w=1 then some (s.length,strCells s)else none:=aD rfl
@[simp] theorem R8{w n:Nat}{cs:List D}:elems σ w (.aH n cs)=if cs.length=n*w then some (n,cs)else none:=aD rfl
end
attribute [simp] bH JZ lq iC sA uP asA aeK BV bounds D.row cells? ef gB aV iX
@[simp] theorem amO{b:Bool}:D.clean (.bool b)=true:=by rw[D.clean]
@[simp] theorem arS{k:IntKind}{n:Int}:D.clean (.int k n)=true:=by rw[D.clean]
@[simp] theorem arU{s:List UInt8}:D.clean (.str s)=true:=by rw[D.clean]
@[simp] theorem amR:D.clean .aK=true:=by rw[D.clean]
@[simp] theorem arR{t:Nat}{d:D}:D.clean (.uH t d)=D.clean d:=by rw[D.clean]
@[simp] theorem amQ:D.clean .iW=true:=by rw[D.clean]
@[simp] theorem atj{l i v o n w:Nat}:D.clean (.sl l i v o n w)=false:=by rw[D.clean]
@[simp] theorem arQ{cs:List D}:D.clean (.agg cs)=D.bJ cs:=by rw[D.clean]
@[simp] theorem arV{cs:List D}:D.clean (.dV cs)=D.bJ cs:=by rw[D.clean]
@[simp] theorem amP{cs:List D}:D.clean (.bB cs)=D.bJ cs:=by rw[D.clean]
@[simp] theorem arT{n:Nat}{cs:List D}:D.clean (.aH n cs)=D.bJ cs:=by rw[D.clean]
@[simp] theorem ati{f:Nat}{a b:List D}:D.clean (.fn f a b)=(D.bJ a && D.bJ b):=by rw[D.clean]
@[simp] theorem anV:D.bJ []=true:=by rw[D.bJ]
@[simp] theorem ah6{d:D}{ds:List D}:D.bJ (d::ds)=(D.clean d && D.bJ ds):=by rw[D.bJ]
@[simp] theorem T7:deep=16:=aD rfl
@[simp] theorem qQ{l n:Nat}{d:D}{σ:SK}(h:d.clean=true)(hn:0<n):cJ l n d σ=(d,σ):=by
 obtain⟨m,rfl⟩:∃m,n=m+1:=⟨n-1,by omega⟩;unfold cJ;simp[h]
@[simp] theorem NI{l n:Nat}{ds:List D}{σ:SK}(h:D.bJ ds=true)(hn:0<n):cJ.frzL (cJ l n) ds σ=(ds,σ):=by
 induction ds generalizing σ with
 |nil=>rfl
 |cons d ds ih =>
  simp only[D.bJ,af]at h;simp[cJ.frzL,h.1,ih h.2,hn]
@[simp] theorem D7{f:D→SK→D×SK}{σ:SK}:cJ.frzL f [] σ=([],σ):=aD rfl
@[simp] theorem BZ{f:D→SK→D×SK}{d:D}{ds:List D}{σ:SK}:cJ.frzL f (d::ds) σ=((f d σ).1::(cJ.frzL f ds (f d σ).2).1,(cJ.frzL f ds (f d σ).2).2):=aD rfl
theorem Ea{l n:Nat}{ds:List D}{σ:SK}(h:D.bJ ds=false)(hn:0<n):cJ l n (.dV ds) σ=(.dV (cJ.frzL (cJ l (n-1)) ds σ).1,(cJ.frzL (cJ l (n-1)) ds σ).2):=by
 obtain⟨m,rfl⟩:∃m,n=m+1:=⟨n-1,by omega⟩
 conv=>lhs;unfold cJ
 simp[D.clean,h]
theorem agN{l n:Nat}{ds:List D}{σ:SK}(h:D.bJ ds=false)(hn:0<n):cJ l n (.agg ds) σ=(.agg (cJ.frzL (cJ l (n-1)) ds σ).1,(cJ.frzL (cJ l (n-1)) ds σ).2):=by
 obtain⟨m,rfl⟩:∃m,n=m+1:=⟨n-1,by omega⟩
 conv=>lhs;unfold cJ
 simp[D.clean,h]
theorem Dl{l n l' i v off m w:Nat}{σ:SK}{cs:List D}(h:¬l'≤l)(hc:cells? σ l' i v=some cs)(hn:0<n):
  cJ l n (.sl l' i v off m w) σ=(.aH m (cJ.frzL (cJ l (n-1)) ((cs.drop off).take (m*w)) (aV σ l' i .dead)).1,(cJ.frzL (cJ l (n-1)) ((cs.drop off).take (m*w)) (aV σ l' i .dead)).2):=by
 obtain⟨m,rfl⟩:∃m,n=m+1:=⟨n-1,by omega⟩
 conv=>lhs;unfold cJ
 simp only[D.clean,h,hc,av,if_false,Nat.add_sub_cancel]
@[simp] theorem ari{l n l' i v off m w:Nat}{σ:SK}(h:l'≤l)(hn:0<n):cJ l n (.sl l' i v off m w) σ=(.sl l' i v off m w,σ):=by
 obtain⟨m,rfl⟩:∃m,n=m+1:=⟨n-1,by omega⟩
 conv=>lhs;unfold cJ
 simp only[D.clean,h,if_true,av,if_false]
@[simp] theorem amA{l n l' i v off:Nat}{σ:SK}(h:l'≤l)(hn:0<n):cJ l n (.ref l' i v off) σ=(.ref l' i v off,σ):=by
 obtain⟨m,rfl⟩:∃m,n=m+1:=⟨n-1,by omega⟩
 conv=>lhs;unfold cJ
 simp only[D.clean,h,if_true,av,if_false]
@[simp] theorem ayH{n:Nat}:(n+1+1=n)=False:=by simp;omega
@[simp] theorem ayI{n:Nat}:(n+1+1+1=n)=False:=by simp;omega
@[simp] theorem ayJ{n:Nat}:(n+1+1+1+1=n)=False:=by simp;omega
@[simp] theorem ayK{n:Nat}:(n+1+1+1+1+1=n)=False:=by simp;omega
theorem CH{a b:List D}:D.bJ (a++b)=(D.bJ a && D.bJ b):=by
 induction a with
 |nil=>rfl
 |cons d a ih=>simp[D.bJ,ih,Bool.and_assoc]
end Go.Abs
