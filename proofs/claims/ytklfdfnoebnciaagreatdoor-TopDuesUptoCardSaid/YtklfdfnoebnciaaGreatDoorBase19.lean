import Derived.Test.YtklfdfnoebnciaaGreatDoorBase12
import Derived.Lib.LaidTab
import Derived.LaidLaws
import Derived.Shelf.Vars
set_option linter.all false
namespace Go.Abs
open Go
theorem NW{P:Program}{w:World}:∀{l:List (String×DataW Unit)} {ps:List MemPlace},DataW.LaidVars P w l ps→∀x∈l,
  ∃g t cs fuel p,P.globalNamed x.1=some g∧(P.globals[g]?).map (·.type)=some t∧w.var? P x.1=some cs∧DataW.trod (fun _=>()) P w 0 (fun _=>true) false fuel t cs.toList=some (x.2,p) ∧
   ∀m∈MemPlace.row ⟨g,0,none⟩ cs.size,m∈ps
 |[],_,_,x,hx=>by cases hx
 |(n,d)::r,ps,h,x,hx=>by
  obtain⟨g,t,cs,fuel,p,q,h1,h2,h3,h4,h5,rfl⟩:=h;rcases bq.1 hx with rfl | hx
  ·exact⟨g,t,cs,fuel,p,h1,h2,h3,h4,fun m hm=>by simp[hm]⟩
  ·obtain⟨g',t',cs',f',p',k1,k2,k3,k4,k5⟩:=NW h5 x hx;exact⟨g',t',cs',f',p',k1,k2,k3,k4,fun m hm=>by simp[k5 m hm]⟩
theorem HW{P:Program}{w:World}{l:List (String×DataW Unit)}(hl:laidMet P l w){n:String}{d:DataW Unit}(hx:(n,d)∈l){b t:Nat}(hb:P.globalNamed n=some b)(ht:(P.globals[b]?).map (·.type)=some t):
  ∃cs fuel p,DataW.trod (fun _=>()) P w 0 (fun _=>true) false fuel t cs.toList=some (d,p)∧(0<cs.size→∃t',w.heap[b]?=some (.cells cs t' (0,0))):=by
 obtain⟨ps,h1,_,h2⟩:=hl;obtain⟨g,t',cs,fuel,p,k1,k2,k3,k4,k5⟩:=NW h1 _ hx;obtain rfl:=Option.some.inj (hb.symm.trans k1);obtain rfl:=Option.some.inj (ht.symm.trans k2);refine⟨cs,fuel,p,k4,fun hpos=>?_⟩;obtain⟨⟨c,t',hc⟩,_⟩:=h2 b 0 (k5 _ (by simp only[MemPlace.row,bN,List.mem_range];exact⟨0,hpos,by simp⟩));simp only[World.var?,hb,Option.bind_some,hc,ad]at k3;subst k3;exact⟨t',hc⟩
theorem NN{P:Program}{w:World}{l:List (String×DataW Unit)}(hl:laidMet P l w){n nm:String}{d:DataW Unit}(hx:(n,.iface nm d)∈l){b t:Nat}{ms:Array (String×TypeId)}(hb:P.globalNamed n=some b)
  (ht:(P.globals[b]?).map (·.type)=some t) (hu:P.underlying t=some (.interface ms)):∃c t v,w.heap[b]?=some (.cells c t (0,0))∧c[0]?=some v∧v.oneCell'=true∧ab7 (.cells c t (0,0)):=by
 obtain⟨cs,fuel,p,h1,h2⟩:=HW hl hx hb ht;obtain⟨f1,u,v,hcs,_⟩:=iface_of_trod hu h1;obtain rfl:cs = #[.iface u v]:=by rw[← gl,hcs]
 obtain⟨t',hc⟩:=h2 (by simp);exact⟨_,t',.iface u v,hc,by simp,rfl,_,t',_,.iface u v,rfl,by simp,.inr ⟨u,v,rfl⟩⟩
theorem acs{P:Program}{w:World}{l:List (String×DataW Unit)}(hl:laidMet P l w){n:String}(hx:(n,Lib.tabData .u64 Lib.pow10Tab)∈l){b t e k:Nat}(hb:P.globalNamed n=some b)
  (ht:(P.globals[b]?).map (·.type)=some t) (hu:P.underlying t=some (.array k e)) (he:P.underlying e=some (.int .u64)) (hce:P.cellsOf e=1) (hct:P.cellsOf t=k):
  ∃c t v,w.heap[b]?=some (.cells c t (0,0))∧c[0]?=some v∧v.oneCell'=true∧akq (.cells c t (0,0)):=by
 obtain⟨cs,fuel,p,h1,h2⟩:=HW hl hx hb ht;have hcs:=Lib.cells_of_tab hu he hce hct h1;obtain rfl:cs=(Lib.pow10Tab.map (Value.int .u64)).toArray:=by rw[← gl,hcs]
 obtain⟨t',hc⟩:=h2 (by decide);exact⟨_,t',.int .u64 1,hc,rfl,rfl,t',_,rfl⟩
theorem acr{P:Program}{w:World}(h:w.ShapedOpen P){g t:Nat}{zero:Array Value}(hg:g<P.globals.size)(h0:((begin P (fun _ _=>0) default).world.heap[g]?).bind Obj.row?=some (zero,t))(hz:zero.size=1)
  (hb:P.buildable t=true) (hc:P.cellTypes P.depth t=some [t]) (hu:P.underlying t=some (.int .i64)):∃c t v,w.heap[g]?=some (.cells c t (0,0))∧c[0]?=some v∧v.oneCell'=true∧akp (.cells c t (0,0)):=by
 obtain⟨m,hm⟩:=Go.Proofs.cell_of_shapedOpen_int h hg h0 hz hb hc hu;obtain⟨cs,hh,_⟩:=h.1 g zero t hg h0;have h1:cs[0]?=some (.int .i64 m):=by simpa[World.cell?,hh]using hm
 exact⟨cs,t,_,hh,h1,rfl,cs,t,_,m,rfl,h1⟩
variable {T:zO} {O:bH}
theorem aA.{u}{α:Sort u}{a b:α}(h:a=b):a=b:=h
inductive Mark.{u} {α:Sort u} (a:α):Type
 |mk
def WO(O:bH)(ops:List Op)(e:Env)(σ:SK)(Q:Env→SK→Prop)(_m:Mark Q:=.mk):Prop:=∃e' σ',lZ O ops e σ=some (e',σ')∧Q e' σ'
def WC(O:bH)(c:cA)(e:Env)(σ:SK)(Q:Exit→Env→SK→Prop)(_m:Mark c:=.mk)(_m':Mark Q:=.mk):Prop:=∃x e' σ',aW O c e σ=some (x,e',σ')∧Q x e' σ'
def WV(o:Option (D×SK))(Q:D→SK→Prop)(_m:Mark Q:=.mk):Prop:=∃d σ',o=some (d,σ')∧Q d σ'
def WL(T:zO)(live:List Nat)(bk:Bool)(c:cA)(e:Env)(σ:SK)(Q:Exit→Env→SK→Prop)(_m:Mark c:=.mk)(_m':Mark Q:=.mk):Prop:=∃x e' σ',lim T (.loop live bk c e σ)=some (.BZ x e' σ')∧Q x e' σ'
theorem WO.mono{ops:List Op}{e:Env}{σ:SK}{Q Q':Env→SK→Prop}(h:WO O ops e σ Q)(hq:∀e σ,Q e σ→Q' e σ):WO O ops e σ Q' :=
 let ⟨e',σ',h1,h2⟩:=h;⟨e',σ',h1,hq _ _ h2⟩
theorem WC.mono{c:cA}{e:Env}{σ:SK}{Q Q':Exit→Env→SK→Prop}(h:WC O c e σ Q)(hq:∀x e σ,Q x e σ→Q' x e σ):WC O c e σ Q' :=
 let ⟨x,e',σ',h1,h2⟩:=h;⟨x,e',σ',h1,hq _ _ _ h2⟩
theorem WL.mono{live:List Nat}{bk:Bool}{c:cA}{e:Env}{σ:SK}{Q Q':Exit→Env→SK→Prop}(h:WL T live bk c e σ Q)(hq:∀x e σ,Q x e σ→Q' x e σ):WL T live bk c e σ Q' :=
 let ⟨x,e',σ',h1,h2⟩:=h;⟨x,e',σ',h1,hq _ _ _ h2⟩
def WD{α:Type}(o:Option α)(Q:α→Prop)(_m:Mark Q:=.mk):Prop:=∃d,o=some d∧Q d
@[simp,simp ↓] theorem C5{α:Type}{d:α}{Q:α→Prop}:WD (some d) Q=Q d:=by
 simp only[WD,ad,eq_iff_iff];exact⟨fun⟨_,h,h'⟩=>by rw[h];exact h',fun h=>⟨_,rfl,h⟩⟩
@[simp,simp ↓] theorem acd{α:Type}{Q:α→Prop}:WD none Q=False:=by simp[WD]
def JV:D→Option Bool
 |.bool b=>some b
 |_=>none
@[simp] theorem akz{b:Bool}:JV (.bool b)=some b:=aA rfl
@[simp] theorem ap7{b:Bool}:(D.bool b).bit=some (some b):=aA rfl
@[simp] theorem aua:(D.dQ []).bit=some none:=aA rfl
def akF(k:IntKind):D→Option D
 |.int _ m=>some (.int k (k.wrap m))
 |_=>none
@[simp] theorem aqd{k k':IntKind}{m:Int}:akF k (.int k' m)=some (.int k (k.wrap m)):=aA rfl
@[simp,simp ↓] theorem at6{d:D}{σ:SK}{Q:D→SK→Prop}:WV (some (d,σ)) Q=Q d σ:=by
 simp only[WV,ad,aj,eq_iff_iff];constructor
 ·rintro⟨_,_,⟨rfl,rfl⟩,h⟩;exact h
 ·exact fun h=>⟨_,_,⟨rfl,rfl⟩,h⟩
@[simp,simp ↓] theorem at5{Q:D→SK→Prop}:WV none Q=False:=by simp[WV]
@[simp,simp ↓] theorem au7{e:Env}{σ:SK}{Q:Env→SK→Prop}:WO O [] e σ Q=Q e σ:=by
 simp only[WO,lZ,ad,aj,eq_iff_iff];constructor
 ·rintro⟨_,_,⟨rfl,rfl⟩,h⟩;exact h
 ·exact fun h=>⟨_,_,⟨rfl,rfl⟩,h⟩
def avT(d:D)(w:Bool):Option Bool :=
 match d with
 |.bool b=>some (b == w)
 |_=>none
@[simp,simp ↓] theorem auX{d:Option Nat}{g:Nat}{w n:Bool}{k:K}{r:List Op}{e:Env}{σ:SK}{Q:Env→SK→Prop}:
  WO O (⟨d,some (g,w),n,k⟩::r) e σ Q=WD (get e g).bit fun b=>if b=some w then WO O (⟨d,none,n,k⟩::r) e σ Q else WO O r (put d (.dQ []) e) σ Q:=by
 cases h:(get e g).bit<;>simp only[WO,lZ,h,reduceCtorEq,false_and,exists_false,acd,C5];rename_i b;by_cases hb:b=some w
 ·simp only[hb,if_true];rfl
 ·simp only[if_neg hb]
theorem dq{d:Option Nat}{n:Bool}{k:K}{r:List Op}{e:Env}{σ:SK}{Q:Env→SK→Prop}(h:vq O ⟨d,none,n,k⟩ e σ=(bF e σ k).map fun x=>(put d x.1 e,x.2)):
  WO O (⟨d,none,n,k⟩::r) e σ Q=WV (bF e σ k) fun v σ'=>WO O r (put d v e) σ' Q:=by
 simp only[WO,lZ,h,WV,eq_iff_iff];constructor
 ·rintro⟨e',σ',h1,h2⟩;cases hs:bF e σ k with
  |none=>simp[hs]at h1
  |some y=>simp[hs]at h1;exact⟨y.1,y.2,rfl,e',σ',h1,h2⟩
 ·rintro⟨v,σ1,h1,e',σ',h2,h3⟩;exact⟨e',σ',by simp[h1,h2],h3⟩
theorem ni{o:Option (D×SK)}{o':Option D}{σ:SK}{Q:D→SK→Prop}(h:o=o'.map (·,σ)):WV o Q=WD o' fun v=>Q v σ:=by
 subst h;cases o'<;>simp
def aaq:D→Option D
 |.aI=>some (.int .i64 0)
 |.aE n _=>some (.int .i64 n)
 |.sl _ _ _ _ n _=>some (.int .i64 n)
 |_=>none
@[simp] theorem apf:aaq .aI=some (.int .i64 0):=aA rfl
@[simp] theorem asJ{n:Nat}{cs:List D}:aaq (.aE n cs)=some (.int .i64 n):=aA rfl
@[simp] theorem auj{l i v o n w:Nat}:aaq (.sl l i v o n w)=some (.int .i64 n):=aA rfl
def K5(ag:Bool)(sz:Nat):Option (List D)→Option D
 |some cs =>
  if sz≤cs.length then
   if ag then some (.agg (cs.take sz))else
   match cs with
   |d::_=>some d
   |[]=>none
  else none
 |none=>none
@[simp] theorem avm{sz:Nat}{cs:List D}:K5 true sz (some cs)=if sz≤cs.length then some (.agg (cs.take sz))else none:=aA rfl
@[simp] theorem auh{d:D}{cs:List D}:K5 false 1 (some (d::cs))=some d:=by simp[K5]
@[simp] theorem asX{σ:SK}{cs:List D}:Ei σ (.bw cs)=some cs:=aA rfl
@[simp] theorem aup{σ:SK}{l i v off:Nat}:Ei σ (.ref l i v off)=(cells? σ l i v).map (·.drop off):=aA rfl
def aap(e:Env)(v:Nat)(ag:Bool)(sz a:Nat):Option D:=K5 ag sz ((rC e v a).map fun x=>x.2.1.drop x.2.2)
def Q4:D→Option (List D)
 |.bw cs=>some cs
 |_=>none
@[simp] theorem akD{cs:List D}:Q4 (.bw cs)=some cs:=aA rfl
@[simp] theorem apb:Hg false .aI=some true:=aA rfl
@[simp] theorem asG{n:Nat}{cs:List D}:Hg false (.aE n cs)=if n=0 then none else some false:=aA rfl
def asN:D→Option D
 |.bw cs=>some (.bw cs)
 |.ref l i v off=>some (.ref l i v off)
 |_=>none
@[simp] theorem asO{l i v off:Nat}:asN (.ref l i v off)=some (.ref l i v off):=aA rfl
def unD:UnOp→D→Option D
 |.not,.bool b=>some (.bool !b)
 |.neg,.int k n=>some (.int k (k.wrap (0-n)))
 |.xor,.int k n=>some (.int k (k.wrap ((BitVec.ofInt k.bits (if k.signed then -1 else k.max) ^^^ BitVec.ofInt k.bits n).toNat:Int)))
 |_,_=>none
@[simp] theorem auv{b:Bool}:unD .not (.bool b)=some (.bool !b):=aA rfl
@[simp] theorem auu{k:IntKind}{n:Int}:unD .neg (.int k n)=some (.int k (k.wrap (0-n))):=aA rfl
def J6(n off:Nat):D→Option D
 |.bw cs=>some (.bw (cs.drop off))
 |.ref l i v o=>some (.ref l i v (o+off))
 |.own s _=>some (.vr n s off)
 |.vr v s o=>some (.vr v s (o+off))
 |_=>none
@[simp] theorem ant{n off:Nat}{cs:List D}:J6 n off (.bw cs)=some (.bw (cs.drop off)):=aA rfl
@[simp] theorem ao1{n off l i v o:Nat}:J6 n off (.ref l i v o)=some (.ref l i v (o+off)):=aA rfl
@[simp] theorem ao0{n off s:Nat}{cs:List D}:J6 n off (.own s cs)=some (.vr n s off):=aA rfl
@[simp] theorem ast{n off v s o:Nat}:J6 n off (.vr v s o)=some (.vr v s (o+off)):=aA rfl
def av8(ag:Bool)(off sz:Nat):D→Option D
 |.agg cs =>
  if off+sz≤cs.length then
   if ag then some (.agg ((cs.drop off).take sz))else cs[off]?
  else none
 |_=>none
def NR(m len w:Nat)(x i:D):Option D :=
 match Dn i with
 |some n =>
  if 0≤n∧n<len then
   match x with
   |.bw cs=>some (.bw ((cs.drop (n.toNat*w)).take w))
   |.ref l j v off=>some (.ref l j v (off+n.toNat*w))
   |.own s _=>some (.vr m s (n.toNat*w))
   |.vr v s o=>some (.vr v s (o+n.toNat*w))
   |_=>none
  else none
 |none=>none
@[simp] theorem anA{m len w:Nat}{cs:List D}{k:IntKind}{n:Int}:NR m len w (.bw cs) (.int k n)=if 0≤n∧n<len then some (.bw ((cs.drop (n.toNat*w)).take w))else none:=aA rfl
@[simp] theorem ao7{m len w l j v off:Nat}{k:IntKind}{n:Int}:NR m len w (.ref l j v off) (.int k n)=if 0≤n∧n<len then some (.ref l j v (off+n.toNat*w))else none:=aA rfl
def NS(w:Nat)(x i:D):Option D :=
 match x,Dn i with
 |.aE m cs,some n=>if 0≤n∧n<m then some (.bw ((cs.drop (n.toNat*w)).take w))else none
 |.sl l j v off m w',some n=>if 0≤n∧n<m∧w'=w then some (.ref l j v (off+n.toNat*w))else none
 |_,_=>none
@[simp] theorem ao8{w m:Nat}{cs:List D}{k:IntKind}{n:Int}:NS w (.aE m cs) (.int k n)=if 0≤n∧n<m then some (.bw ((cs.drop (n.toNat*w)).take w))else none:=aA rfl
@[simp] theorem asD{w l j v off m w':Nat}{k:IntKind}{n:Int}:NS w (.sl l j v off m w') (.int k n)=if 0≤n∧n<m∧w'=w then some (.ref l j v (off+n.toNat*w))else none:=aA rfl
def Z8(ag:Bool)(len w:Nat)(x i:D):Option D :=
 match x,Dn i with
 |.agg cs,some n =>
  if 0≤n∧n<len∧(n.toNat+1)*w≤cs.length then
   if ag then some (.agg ((cs.drop (n.toNat*w)).take w))else cs[n.toNat*w]?
  else none
 |_,_=>none
@[simp] theorem ao9{ag:Bool}{len w:Nat}{cs:List D}{k:IntKind}{n:Int}:Z8 ag len w (.agg cs) (.int k n)=if 0≤n∧n<len∧(n.toNat+1)*w≤cs.length then(if ag then some (.agg ((cs.drop (n.toNat*w)).take w))else cs[n.toNat*w]?)else none:=aA rfl
def mnD(x y:D):Option D :=
 match x,y with
 |.int k a,.int _ b=>some (.int k (min a b))
 |_,_=>none
@[simp] theorem aum{k k':IntKind}{a b:Int}:mnD (.int k a) (.int k' b)=some (.int k (min a b)):=aA rfl
def mxD(x y:D):Option D :=
 match x,y with
 |.int k a,.int _ b=>some (.int k (max a b))
 |_,_=>none
@[simp] theorem aun{k k':IntKind}{a b:Int}:mxD (.int k a) (.int k' b)=some (.int k (max a b)):=aA rfl
def aqm(x:D)(i:Nat):Option D :=
 match x with
 |.dQ ds=>ds[i]?
 |_=>none
@[simp] theorem aqn{ds:List D}{i:Nat}:aqm (.dQ ds) i=ds[i]?:=aA rfl
def akL(ag:Bool)(ks:List (Option IntKind))(neg:Bool)(x y:D):Option D :=
 match x.row ag,y.row ag with
 |some p,some q=>(zl ks p q).map fun b => .bool (if neg then !b else b)
 |_,_=>none
@[simp] theorem auc{ks:List (Option IntKind)}{neg:Bool}{p q:List D}:akL true ks neg (.agg p) (.agg q)=(zl ks p q).map fun b => .bool (if neg then !b else b):=aA rfl
@[simp] theorem asZ:zl [] [] []=some true:=aA rfl
@[simp] theorem asY{k k1 k2:IntKind}{ks:List (Option IntKind)}{a b:Int}{x y:List D}:zl (some k::ks) (.int k1 a::x) (.int k2 b::y)=if k1=k∧k2=k then(zl ks x y).map (a == b && ·)else none:=aA rfl
def aoG(w:Nat)(x:D)(e:Env)(lo hi mx:Option bE):Option D :=
 match x with
 |.aE n cs=>(bounds n e lo hi mx).map fun b => .aE (b.2-b.1) ((cs.drop (b.1*w)).take ((b.2-b.1)*w))
 |.sl l i v off n w'=>if w'=w then(bounds n e lo hi mx).map fun b => .sl l i v (off+b.1*w) (b.2-b.1) w else none
 |.aI=>(bounds 0 e lo hi mx).map fun _ => .aI
 |_=>none
@[simp] theorem atD{w n:Nat}{cs:List D}{e:Env}{lo hi mx:Option bE}:aoG w (.aE n cs) e lo hi mx=(bounds n e lo hi mx).map fun b => .aE (b.2-b.1) ((cs.drop (b.1*w)).take ((b.2-b.1)*w)):=aA rfl
section bins
variable {k:IntKind} {a b:Int}
@[simp] theorem apW:u9 .add (.int k a) (.int k b)=some (.int k (k.wrap (a+b))):=by simp[u9]
@[simp] theorem ap6:u9 .sub (.int k a) (.int k b)=some (.int k (k.wrap (a-b))):=by simp[u9]
@[simp] theorem ap2:u9 .mul (.int k a) (.int k b)=some (.int k (k.wrap (a*b))):=by simp[u9]
@[simp] theorem ap4:u9 .quo (.int k a) (.int k b)=if b≠0 then some (.int k (k.wrap (a.tdiv b)))else none:=by simp[u9]
@[simp] theorem ap5:u9 .rem (.int k a) (.int k b)=if b≠0 then some (.int k (a.tmod b))else none:=by simp[u9]
@[simp] theorem apX:u9 .eql (.int k a) (.int k b)=some (.bool (a == b)):=by simp[u9]
@[simp] theorem ap3:u9 .neq (.int k a) (.int k b)=some (.bool (a != b)):=by simp[u9]
@[simp] theorem ap1:u9 .lss (.int k a) (.int k b)=some (.bool (decide (a<b))):=by simp[u9]
@[simp] theorem ap0:u9 .leq (.int k a) (.int k b)=some (.bool (decide (a≤b))):=by simp[u9]
@[simp] theorem apZ:u9 .gtr (.int k a) (.int k b)=some (.bool (decide (b<a))):=by simp[u9]
@[simp] theorem apY:u9 .geq (.int k a) (.int k b)=some (.bool (decide (b≤a))):=by simp[u9]
end bins
@[simp] theorem acX:D.strip .undef=.undef:=aA rfl
@[simp] theorem ajD{b:Bool}:D.strip (.bool b)=.bool b:=aA rfl
@[simp] theorem aog{k:IntKind}{n:Int}:D.strip (.int k n)=.int k n:=aA rfl
@[simp] theorem aoj{s:List UInt8}:D.strip (.str s)=.str s:=aA rfl
@[simp] theorem aoe{cs:List D}:D.strip (.agg cs)=.agg cs:=aA rfl
@[simp] theorem aok{cs:List D}:D.strip (.dQ cs)=.dQ cs:=aA rfl
@[simp] theorem aoi{l i v o:Nat}:D.strip (.ref l i v o)=.ref l i v o:=aA rfl
@[simp] theorem ajE{cs:List D}:D.strip (.bw cs)=.bw cs:=aA rfl
@[simp] theorem ajG:D.strip .aI=.aI:=aA rfl
@[simp] theorem aoh{n:Nat}{cs:List D}:D.strip (.aE n cs)=.aE n cs:=aA rfl
@[simp] theorem apE{l i v o n w:Nat}:D.strip (.sl l i v o n w)=.sl l i v o n w:=aA rfl
@[simp] theorem apD{f:Nat}{a b:List D}:D.strip (.fn f a b)=.fn f a b:=aA rfl
@[simp] theorem aof{t:Nat}{d:D}:D.strip (.tQ t d)=.tQ t d:=aA rfl
@[simp] theorem ajF:D.strip .o9=.o9:=aA rfl
@[simp] theorem apq{t:Nat}{d:D}:D.calm (.tQ t d)=.tQ t d:=aA rfl
@[simp] theorem anU:D.calm .o9=.o9:=aA rfl
@[simp] theorem aol{l i:Nat}:D.strip (.mf l i)=.mf l i:=aA rfl
@[simp] theorem ajw:D.calm .undef=.undef:=aA rfl
@[simp] theorem anS{b:Bool}:D.calm (.bool b)=.bool b:=aA rfl
@[simp] theorem apr{k:IntKind}{n:Int}:D.calm (.int k n)=.int k n:=aA rfl
@[simp] theorem apv{s:List UInt8}:D.calm (.str s)=.str s:=aA rfl
@[simp] theorem apo{cs:List D}:D.calm (.agg cs)=.agg cs:=aA rfl
@[simp] theorem apu{l i v o:Nat}:D.calm (.ref l i v o)=.ref l i v o:=aA rfl
@[simp] theorem anT{cs:List D}:D.calm (.bw cs)=.bw cs:=aA rfl
@[simp] theorem anV:D.calm .aI=.aI:=aA rfl
@[simp] theorem aps{n:Nat}{cs:List D}:D.calm (.aE n cs)=.aE n cs:=aA rfl
@[simp] theorem asW{l i v o n w:Nat}:D.calm (.sl l i v o n w)=.sl l i v o n w:=aA rfl
@[simp] theorem asV{f:Nat}{a b:List D}:D.calm (.fn f a b)=.fn f a b:=aA rfl
@[simp] theorem apw{l i:Nat}:D.calm (.mf l i)=.mf l i:=aA rfl
@[simp] theorem apt{s:Nat}{cs:List D}:D.calm (.own s cs)=.own 0 cs:=aA rfl
@[simp] theorem ajx{b:Bool}:D.cells (.bool b)=some [.bool b]:=aA rfl
@[simp] theorem anX{k:IntKind}{n:Int}:D.cells (.int k n)=some [.int k n]:=aA rfl
@[simp] theorem an0{s:List UInt8}:D.cells (.str s)=some [.str s]:=aA rfl
@[simp] theorem anW{cs:List D}:D.cells (.agg cs)=some cs:=aA rfl
@[simp] theorem anZ{l i v o:Nat}:D.cells (.ref l i v o)=some [.ref l i v o]:=aA rfl
@[simp] theorem anY{n:Nat}{cs:List D}:D.cells (.aE n cs)=some [.aE n cs]:=aA rfl
@[simp] theorem apy{l i v o n w:Nat}:D.cells (.sl l i v o n w)=some [.sl l i v o n w]:=aA rfl
@[simp] theorem apx{f:Nat}{a b:List D}:D.cells (.fn f a b)=some [.fn f a b]:=aA rfl
@[simp] theorem an1{l i:Nat}:D.cells (.mf l i)=some [.mf l i]:=aA rfl
@[simp] theorem asE{k:IntKind}{n:Int}:Dn (.int k n)=some n:=aA rfl
@[simp] theorem rK{O:bH}{kp:Bool}{f:Nat}{first cap args:List D}{σ:SK}:oU O kp (.fn f first cap) args σ=R.bf (O (.call kp f (first++args++cap) σ)):=aA rfl
@[simp] theorem aoW{O:bH}{kp:Bool}{l i:Nat}{args:List D}{σ:SK}:oU O kp (.mf l i) args σ=R.bf (O (.round l i args σ)):=aA rfl
@[simp] theorem atM{d:D}{σ:SK}:R.bf (some (.val d σ))=some (d,σ):=aA rfl
section ops
variable {d:Option Nat} {n:Bool} {r:List Op} {e:Env} {σ:SK} {Q:Env→SK→Prop}
@[simp,simp ↓] theorem avP{x:bE}:WO O (⟨d,none,n,.mv x⟩::r) e σ Q=WO O r (put d (aZ e x) e) σ Q:=by rw[dq rfl];simp[bF]
@[simp,simp ↓] theorem at3{w:Nat}:WO O (⟨d,none,n,.rq w⟩::r) e σ Q=WV (bF e σ (.rq w)) fun v σ'=>WO O r (put d v e) σ' Q:=dq rfl
@[simp,simp ↓] theorem auL{nb:List (Nat×Nat)}{cs:List D}:WO O (⟨d,none,n,.G8 nb cs⟩::r) e σ Q=WV (bF e σ (.G8 nb cs)) fun v σ'=>WO O r (put d v e) σ' Q:=dq rfl
@[simp,simp ↓] theorem at4{c a b:bE}:WO O (⟨d,none,n,.pick c a b⟩::r) e σ Q=WD (JV (aZ e c)) fun t=>WO O r (put d (if t then aZ e a else aZ e b) e) σ Q:=by
 rw[dq rfl];simp only[bF];cases aZ e c<;>simp[JV]
@[simp,simp ↓] theorem atU{x:bE}:WO O (⟨d,none,n,.G9 x⟩::r) e σ Q=WD (aZ e x).cells fun cs=>WO O r (put d (.bw cs) e) σ Q:=by
 rw[dq rfl];simp only[bF];cases(aZ e x).cells<;>simp
@[simp,simp ↓] theorem atV{x:bE}:WO O (⟨d,none,n,.Ha x⟩::r) e σ Q=WV (bF e σ (.Ha x)) fun v σ'=>WO O r (put d v e) σ' Q:=dq rfl
@[simp,simp ↓] theorem auT{nb:List (Nat×Nat)}{x:bE}:WO O (⟨d,none,n,.bxn nb x⟩::r) e σ Q=WV (bF e σ (.bxn nb x)) fun v σ'=>WO O r (put d v e) σ' Q:=dq rfl
@[simp,simp ↓] theorem auQ{z:List D}{ps:List (Nat×Nat×bE)}:WO O (⟨d,none,n,.lf z ps⟩::r) e σ Q=WD (rB e ps z) fun cs=>WO O r (put d (.agg cs) e) σ Q:=by
 rw[dq rfl];simp only[bF];cases rB e ps z<;>simp
@[simp,simp ↓] theorem auR{m w:Nat}{z:List D}{ps:List (Nat×Nat×bE)}:WO O (⟨d,none,n,.uH m w z ps⟩::r) e σ Q=WD (rB e ps z) fun cs=>WO O r (put d (.aE m cs) e) σ Q:=by
 rw[dq rfl];simp only[bF];cases rB e ps z<;>simp
@[simp,simp ↓] theorem auS{m w:Nat}{z:List D}{ps:List (Nat×Nat×bE)}:WO O (⟨d,none,n,.K4 m w z ps⟩::r) e σ Q=WV (bF e σ (.K4 m w z ps)) fun v σ'=>WO O r (put d v e) σ' Q:=dq rfl
@[simp,simp ↓] theorem avL{ag:Bool}{sz:Nat}{a:bE}:WO O (⟨d,none,n,.ld ag sz a⟩::r) e σ Q=WD (K5 ag sz (Ei σ (aZ e a))) fun v=>WO O r (put d v e) σ Q:=by
 rw[dq rfl];refine ni ?_;simp only[bF];cases Ei σ (aZ e a)with
 |none=>rfl
 |some cs =>
  simp only[K5];split
  ·cases ag
   ·cases cs<;>rfl
   ·rfl
  ·rfl
theorem Oa{σ:SK}{l i off:Nat}:PZ σ (.ref l i 0 off)=Ei σ (.ref l i 0 off):=rfl
@[simp,simp ↓] theorem au0{ag:Bool}{sz:Nat}{a:bE}:WO O (⟨d,none,n,.PV ag sz a⟩::r) e σ Q=WD (K5 ag sz (PZ σ (aZ e a))) fun v=>WO O r (put d v e) σ Q:=by
 rw[dq rfl];refine ni ?_;simp only[bF];cases PZ σ (aZ e a)with
 |none=>rfl
 |some cs =>
  simp only[K5];split
  ·cases ag
   ·cases cs<;>rfl
   ·rfl
  ·rfl
@[simp,simp ↓] theorem au1{ag:Bool}{sz:Nat}{a:bE}:WO O (⟨d,none,n,.PW ag sz a⟩::r) e σ Q=WD (K5 ag sz (Q4 (aZ e a))) fun v=>WO O r (put d v e) σ Q:=by
 rw[dq rfl];refine ni ?_;simp only[bF];cases aZ e a with
 |bw cs =>
  simp only[Q4,K5];split
  ·cases ag
   ·cases cs<;>rfl
   ·rfl
  ·rfl
 |_=>rfl
@[simp,simp ↓] theorem auZ{ps neg:Bool}{x:bE}:WO O (⟨d,none,n,.isn ps neg x⟩::r) e σ Q=WD (Hg ps (aZ e x)) fun b=>WO O r (put d (.bool (if neg then !b else b)) e) σ Q:=by
 rw[dq rfl];simp only[bF];cases Hg ps (aZ e x)<;>simp
@[simp,simp ↓] theorem au6{x:bE}:WO O (⟨d,none,n,.ng x⟩::r) e σ Q=WD (asN (aZ e x)) fun v=>WO O r (put d v e) σ Q:=by
 rw[dq rfl];refine ni ?_;simp only[bF];cases aZ e x<;>rfl
@[simp,simp ↓] theorem avR{nb:List (Nat×Nat)}{sz:Nat}{a x:bE}:WO O (⟨d,none,n,.st nb sz a x⟩::r) e σ Q=WV (bF e σ (.st nb sz a x)) fun v σ'=>WO O r (put d v e) σ' Q:=dq rfl
@[simp,simp ↓] theorem au2{v:Nat}{ag:Bool}{sz a:Nat}:WO O (⟨d,none,n,.PX v ag sz a⟩::r) e σ Q=WD (aap e v ag sz a) fun v=>WO O r (put d v e) σ Q:=by
 rw[dq rfl];refine ni ?_;simp only[bF,aap];cases rC e v a with
 |none=>rfl
 |some x =>
  obtain⟨s,cs,off⟩:=x;simp only[K5,aS];split
  ·cases ag
   ·cases cs.drop off<;>rfl
   ·rfl
  ·rfl
@[simp,simp ↓] theorem auP{o:BinOp}{x y:bE}:WO O (⟨d,none,n,.bin o x y⟩::r) e σ Q=WD (u9 o (aZ e x) (aZ e y)) fun v=>WO O r (put d v e) σ Q:=by
 rw[dq rfl];simp only[bF];cases u9 o (aZ e x) (aZ e y)<;>simp
@[simp,simp ↓] theorem auV{ag:Bool}{ks:List (Option IntKind)}{neg:Bool}{x y:bE}:WO O (⟨d,none,n,.eqv ag ks neg x y⟩::r) e σ Q=WD (akL ag ks neg (aZ e x) (aZ e y)) fun v=>WO O r (put d v e) σ Q:=by
 rw[dq rfl];refine ni ?_;simp only[bF,akL];cases(aZ e x).row ag<;>cases(aZ e y).row ag<;>simp[Option.map_map,Function.comp_def]
@[simp,simp ↓] theorem avS{o:UnOp}{x:bE}:WO O (⟨d,none,n,.un o x⟩::r) e σ Q=WD (unD o (aZ e x)) fun v=>WO O r (put d v e) σ Q:=by
 rw[dq rfl];refine ni ?_;simp only[bF];cases o<;>cases aZ e x<;>rfl
@[simp,simp ↓] theorem auU{k:IntKind}{x:bE}:WO O (⟨d,none,n,.Q5 k x⟩::r) e σ Q=WD (akF k (aZ e x)) fun v=>WO O r (put d v e) σ Q:=by
 rw[dq rfl];simp only[bF];cases aZ e x<;>simp[akF]
@[simp,simp ↓] theorem au8{p:Pu}{xs:List bE}:WO O (⟨d,none,n,.BR p xs⟩::r) e σ Q=WD (CM p (xs.map (aZ e))) fun v=>WO O r (put d v e) σ Q:=by
 rw[dq rfl];simp only[bF];cases CM p (xs.map (aZ e))<;>simp
@[simp,simp ↓] theorem avM{p:Me}{xs:List bE}:WO O (⟨d,none,n,.me p xs⟩::r) e σ Q=WV (meD σ p (xs.map (aZ e))) fun v σ'=>WO O r (put d v e) σ' Q:=dq rfl
@[simp,simp ↓] theorem avO{p:Mo}{xs:List bE}:WO O (⟨d,none,n,.mp p xs⟩::r) e σ Q=WV (Af σ p (xs.map (aZ e))) fun v σ'=>WO O r (put d v e) σ' Q:=dq rfl
@[simp,simp ↓] theorem au4{t:Nat}{x:bE}:WO O (⟨d,none,n,.mki t x⟩::r) e σ Q=WO O r (put d (.tQ t (aZ e x)) e) σ Q:=by rw[dq rfl];simp[bF]
@[simp,simp ↓] theorem avb{t:Nat}{z:Option D}{x:bE}:WO O (⟨d,none,n,.tas t z x⟩::r) e σ Q=WD (Mw t z (aZ e x)) fun v=>WO O r (put d v e) σ Q:=by
 rw[dq rfl];simp only[bF];cases Mw t z (aZ e x)<;>simp
@[simp,simp ↓] theorem auY{neg:Bool}{x:bE}:WO O (⟨d,none,n,.isi neg x⟩::r) e σ Q=WD (aag (aZ e x)) fun b=>WO O r (put d (.bool (if neg then !b else b)) e) σ Q:=by
 rw[dq rfl];simp only[bF];cases aag (aZ e x)<;>simp
@[simp] theorem apa:aag .o9=some true:=aA rfl
@[simp] theorem asF{t:Nat}{d:D}:aag (.tQ t d)=some false:=aA rfl
@[simp] theorem atG{t t':Nat}{z d:D}:Mw t (some z) (.tQ t' d)=some (if t'=t then .dQ [d,.bool true]else .dQ [z,.bool false]):=aA rfl
@[simp,simp ↓] theorem au3{f:Nat}{xs ys:List bE}:WO O (⟨d,none,n,.xf f xs ys⟩::r) e σ Q=WO O r (put d (.fn f (xs.map (aZ e)) (ys.map (aZ e))) e) σ Q:=by rw[dq rfl];simp[bF]
@[simp,simp ↓] theorem au5{w b:Nat}{z:List D}{l c:bE}:WO O (⟨d,none,n,.mks w b z l c⟩::r) e σ Q=WV (bF e σ (.mks w b z l c)) fun v σ'=>WO O r (put d v e) σ' Q:=dq rfl
@[simp,simp ↓] theorem au9{w:Nat}{x:bE}{lo hi mx:Option bE}:WO O (⟨d,none,n,.K8 w x lo hi mx⟩::r) e σ Q=WD (aoG w (aZ e x) e lo hi mx) fun v=>WO O r (put d v e) σ Q:=by
 rw[dq rfl];refine ni ?_;simp only[bF,aoG];cases aZ e x<;>first | rfl | (simp only[];split<;>simp[Option.map_map,Function.comp_def]) | simp[Option.map_map,Function.comp_def]
@[simp,simp ↓] theorem atY{off m:Nat}:WO O (⟨d,none,n,.Hc off (.t m)⟩::r) e σ Q=WD (J6 m off (get e m)) fun v=>WO O r (put d v e) σ Q:=by
 rw[dq rfl];refine ni ?_;simp only[bF];cases get e m<;>rfl
@[simp,simp ↓] theorem atZ{l w m:Nat}{i:bE}:WO O (⟨d,none,n,.AI l w (.t m) i⟩::r) e σ Q=WD (NR m l w (get e m) (aZ e i)) fun v=>WO O r (put d v e) σ Q:=by
 rw[dq rfl];refine ni ?_;simp only[bF,NR];cases Dn (aZ e i)with
 |none=>rfl
 |some k=>simp only[];split<;>cases get e m<;>rfl
@[simp,simp ↓] theorem at0{w:Nat}{x i:bE}:WO O (⟨d,none,n,.eI w x i⟩::r) e σ Q=WD (NS w (aZ e x) (aZ e i)) fun v=>WO O r (put d v e) σ Q:=by
 rw[dq rfl];refine ni ?_;simp only[bF,NS];cases Dn (aZ e i)with
 |none=>cases aZ e x<;>rfl
 |some k=>cases aZ e x<;>first | rfl | (simp only[];split<;>rfl)
@[simp,simp ↓] theorem at1{ag:Bool}{l w:Nat}{x i:bE}:WO O (⟨d,none,n,.IW ag l w x i⟩::r) e σ Q=WD (Z8 ag l w (aZ e x) (aZ e i)) fun v=>WO O r (put d v e) σ Q:=by
 rw[dq rfl];refine ni ?_;simp only[bF,Z8];cases Dn (aZ e i)with
 |none=>cases aZ e x<;>rfl
 |some k=>cases aZ e x<;>first | rfl | (simp only[];split<;>cases ag<;>simp)
@[simp,simp ↓] theorem at2{x:bE}:WO O (⟨d,none,n,.Hh x⟩::r) e σ Q=WD (aaq (aZ e x)) fun v=>WO O r (put d v e) σ Q:=by
 rw[dq rfl];refine ni ?_;simp only[bF];cases aZ e x<;>rfl
@[simp,simp ↓] theorem avN{x y:bE}:WO O (⟨d,none,n,.mn x y⟩::r) e σ Q=WD (mnD (aZ e x) (aZ e y)) fun v=>WO O r (put d v e) σ Q:=by
 rw[dq rfl];refine ni ?_;simp only[bF];cases aZ e x<;>cases aZ e y<;>rfl
@[simp,simp ↓] theorem avQ{x y:bE}:WO O (⟨d,none,n,.mx x y⟩::r) e σ Q=WD (mxD (aZ e x) (aZ e y)) fun v=>WO O r (put d v e) σ Q:=by
 rw[dq rfl];refine ni ?_;simp only[bF];cases aZ e x<;>cases aZ e y<;>rfl
@[simp,simp ↓] theorem auO{w b:Nat}{s x:bE}:WO O (⟨d,none,n,.PT w b s x⟩::r) e σ Q=WV (bF e σ (.PT w b s x)) fun v σ'=>WO O r (put d v e) σ' Q:=dq rfl
@[simp,simp ↓] theorem auM{os:List Nat}{w b:Nat}{s x:bE}:WO O (⟨d,none,n,.OQ os w b s x⟩::r) e σ Q=WV (bF e σ (.OQ os w b s x)) fun v σ'=>WO O r (put d v e) σ' Q:=dq rfl
@[simp,simp ↓] theorem auN{w b:Nat}{s x:bE}:WO O (⟨d,none,n,.app w b s x⟩::r) e σ Q=WV (bF e σ (.app w b s x)) fun v σ'=>WO O r (put d v e) σ' Q:=dq rfl
@[simp,simp ↓] theorem auW{x:bE}{i:Nat}:WO O (⟨d,none,n,.ext x i⟩::r) e σ Q=WD (aqm (aZ e x) i) fun v=>WO O r (put d v e) σ Q:=by
 rw[dq rfl];refine ni ?_;simp only[bF];cases aZ e x<;>rfl
@[simp,simp ↓] theorem atX{kp:Bool}{f:bE}{args:List bE}:WO O (⟨d,none,n,.call kp f args⟩::r) e σ Q =
  WV (oU O kp (aZ e f) (args.map (aZ e)) σ) fun v σ'=>(n=true→σ'=σ)∧WO O r (put d v e) σ' Q:=by
 simp only[WO,lZ,vq,WV,eq_iff_iff];cases hc:oU O kp (aZ e f) (args.map (aZ e)) σ with
 |none=>simp
 |some y =>
  obtain⟨v,σ1⟩:=y;by_cases hn:n=true→σ1=σ
  ·simp only[if_pos hn,Option.bind_some,ad,aj];exact⟨fun h=>⟨v,σ1,⟨rfl,rfl⟩,hn,h⟩,fun⟨_,_,⟨h1,h2⟩,_,h⟩=>by subst h1 h2;exact h⟩
  ·simp only[if_neg hn,Option.bind_none,reduceCtorEq,false_and,exists_false,ad,aj,false_iff];rintro⟨_,_,⟨h1,h2⟩,h,_⟩;subst h1 h2;exact hn h
@[simp,simp ↓] theorem atT{nb:List (Nat×Nat)}{cs:List D}:WO O (⟨d,none,n,.dT nb cs⟩::r) e σ Q=WD d fun v=>WD (kq nb cs σ) fun y=>WO O r ((v,.own (tZ e v) y.1)::e) y.2 Q:=by
 cases d with
 |none=>simp[WO,lZ,vq]
 |some v=>cases h:kq nb cs σ with
  |none=>simp[WO,lZ,vq,h]
  |some y=>obtain⟨a,b⟩:=y;simp only[WO,lZ,vq,h,Option.bind_some,C5]
@[simp,simp ↓] theorem atW{x:bE}:WO O (⟨d,none,n,.D1 x⟩::r) e σ Q=WD d fun v=>WD (aZ e x).cells fun cs=>WO O r ((v,.own (tZ e v) cs)::e) σ Q:=by
 cases d with
 |none=>simp[WO,lZ,vq]
 |some v=>cases h:(aZ e x).cells with
  |none=>simp[WO,lZ,vq,h]
  |some y=>simp only[WO,lZ,vq,h,Option.bind_some,C5]
def aoN(e:Env)(σ:SK)(v:Nat)(nb:List (Nat×Nat))(sz a:Nat)(x:bE):Option (D×SK) :=
 match rC e v a,(aZ e x).cells with
 |some (s,cs,off),some p =>
  if p.length=sz∧off+sz≤cs.length then
   match kq nb p σ with
   |some (p',σ')=>some (.own s (cs.take off++p'++cs.drop (off+sz)),σ')
   |none=>none
  else none
 |_,_=>none
@[simp,simp ↓] theorem ava{v:Nat}{nb:List (Nat×Nat)}{sz a:Nat}{x:bE}:WO O (⟨d,none,n,.Er v nb sz a x⟩::r) e σ Q =
  WV (aoN e σ v nb sz a x) fun y σ'=>WO O r ((v,y)::e) σ' Q:=by
 simp only[WO,lZ,vq,aoN];cases h1:rC e v a with
 |none=>simp
 |some p =>
  obtain⟨s,cs,off⟩:=p;cases h2:(aZ e x).cells with
  |none=>simp
  |some p =>
   dsimp only;split
   ·cases h3:kq nb p σ with
    |none=>simp
    |some y=>obtain⟨a,b⟩:=y;simp[WO]
   ·simp
end ops
section code
variable {e:Env} {σ:SK} {Q:Exit→Env→SK→Prop}
@[simp,simp ↓] theorem auH:WC O .ep e σ Q=Q .normal e σ:=by
 simp only[WC,aW,ad,aj,eq_iff_iff];exact⟨fun⟨_,_,_,⟨h1,h2,h3⟩,h⟩=>by subst h1 h2 h3;exact h,fun h=>⟨_,_,_,⟨rfl,rfl,rfl⟩,h⟩⟩
@[simp,simp ↓] theorem auF{vs:List Nat}:WC O (.ck vs) e σ Q=Q .normal (uC vs e σ).1 (uC vs e σ).2:=by
 simp only[WC,aW,ad,aj,eq_iff_iff];exact⟨fun⟨_,_,_,⟨h1,h2,h3⟩,h⟩=>by subst h1 h2 h3;exact h,fun h=>⟨_,_,_,⟨rfl,rfl,rfl⟩,h⟩⟩
@[simp,simp ↓] theorem atQ{i:Nat}:WC O (.exit i) e σ Q=Q (.exit i) e σ:=by
 simp only[WC,aW,ad,aj,eq_iff_iff];exact⟨fun⟨_,_,_,⟨h1,h2,h3⟩,h⟩=>by subst h1 h2 h3;exact h,fun h=>⟨_,_,_,⟨rfl,rfl,rfl⟩,h⟩⟩
@[simp,simp ↓] theorem auJ:WC O .ret e σ Q=Q .ret e σ:=by
 simp only[WC,aW,ad,aj,eq_iff_iff];exact⟨fun⟨_,_,_,⟨h1,h2,h3⟩,h⟩=>by subst h1 h2 h3;exact h,fun h=>⟨_,_,_,⟨rfl,rfl,rfl⟩,h⟩⟩
@[simp,simp ↓] theorem auI{live:List Nat}{ops:List Op}:WC O (.cm live ops) e σ Q=WO O ops e σ fun e' σ'=>Q .normal (restrict live e') σ':=by
 simp only[WC,aW,WO,ab,aj,eq_iff_iff];constructor
 ·rintro⟨x,e',σ',⟨⟨e1,σ1⟩,h1,rfl,rfl,rfl⟩,h⟩;exact⟨e1,σ1,h1,h⟩
 ·rintro⟨e',σ',h1,h⟩;exact⟨_,_,_,⟨⟨e',σ'⟩,h1,rfl,rfl,rfl⟩,h⟩
def KX(O:bH)(b:cA)(Q:Exit→Env→SK→Prop)(_m:Mark b:=.mk)(_m':Mark Q:=.mk):Exit→Env→SK→Prop
 |.normal,e,σ=>WC O b e σ Q
 |.exit i,e,σ=>Q (.exit i) e σ
 |.ret,e,σ=>Q .ret e σ
 |.fx d,e,σ=>Q (.fx d) e σ
@[simp,simp ↓] theorem apG{b:cA}{d:D}:KX O b Q .mk .mk (.fx d) e σ=Q (.fx d) e σ:=aA rfl
@[simp,simp ↓] theorem adi{b:cA}:KX O b Q .mk .mk .normal e σ=WC O b e σ Q:=aA rfl
@[simp,simp ↓] theorem aoQ{b:cA}{i:Nat}:KX O b Q .mk .mk (.exit i) e σ=Q (.exit i) e σ:=aA rfl
@[simp,simp ↓] theorem apF{b:cA}:KX O b Q .mk .mk .ret e σ=Q .ret e σ:=aA rfl
@[simp,simp ↓] theorem auK{a b:cA}:WC O (.seq a b) e σ Q=WC O a e σ (KX O b Q .mk .mk):=by
 simp only[WC,aW,af,eq_iff_iff];constructor
 ·rintro⟨x,e',σ',⟨⟨x1,e1,σ1⟩,h1,h2⟩,h⟩;refine⟨x1,e1,σ1,h1,?_⟩;cases x1 with
  |normal=>exact⟨x,e',σ',h2,h⟩
  |exit i=>cases h2;exact h
  |ret=>cases h2;exact h
  |fx d=>cases h2;exact h
 ·rintro⟨x1,e1,σ1,h1,h⟩;cases x1 with
  |normal=>obtain⟨x,e',σ',h2,h3⟩:=h;exact⟨x,e',σ',⟨_,h1,h2⟩,h3⟩
  |exit i=>exact⟨_,_,_,⟨_,h1,rfl⟩,h⟩
  |ret=>exact⟨_,_,_,⟨_,h1,rfl⟩,h⟩
  |fx d=>exact⟨_,_,_,⟨_,h1,rfl⟩,h⟩
@[simp,simp ↓] theorem auG{c:bE}{a b:cA}:WC O (.ite c a b) e σ Q=WD (JV (aZ e c)) fun t=>if t=true then WC O a e σ Q else WC O b e σ Q:=by
 simp only[WC,aW];cases aZ e c<;>simp[JV];rename_i t;cases t<;>simp
def L6(id:Nat)(Q:Exit→Env→SK→Prop)(_m:Mark Q:=.mk):Exit→Env→SK→Prop
 |.normal,e,σ=>Q .normal e σ
 |.exit i,e,σ=>if i=id then Q .normal e σ else Q (.exit i) e σ
 |.ret,e,σ=>Q .ret e σ
 |.fx d,e,σ=>Q (.fx d) e σ
@[simp,simp ↓] theorem asS{id:Nat}{d:D}:L6 id Q .mk (.fx d) e σ=Q (.fx d) e σ:=aA rfl
@[simp,simp ↓] theorem aju{id:Nat}:L6 id Q .mk .normal e σ=Q .normal e σ:=aA rfl
@[simp,simp ↓] theorem apn{id i:Nat}:L6 id Q .mk (.exit i) e σ=if i=id then Q .normal e σ else Q (.exit i) e σ:=aA rfl
@[simp,simp ↓] theorem asR{id:Nat}:L6 id Q .mk .ret e σ=Q .ret e σ:=aA rfl
@[simp,simp ↓] theorem auE{id:Nat}{a:cA}:WC O (.bL id a) e σ Q=WC O a e σ (L6 id Q .mk):=by
 simp only[WC,aW,ab,eq_iff_iff];constructor
 ·rintro⟨x,e',σ',⟨⟨x1,e1,σ1⟩,h1,h2⟩,h⟩;refine⟨x1,e1,σ1,h1,?_⟩;cases x1 with
  |normal=>cases h2;exact h
  |exit i =>
   simp only[L6];dsimp only at h2;split at h2<;>cases h2
   ·rw[if_pos (by assumption)];exact h
   ·rw[if_neg (by assumption)];exact h
  |ret=>cases h2;exact h
  |fx d=>cases h2;exact h
 ·rintro⟨x1,e1,σ1,h1,h⟩;cases x1 with
  |normal=>exact⟨_,_,_,⟨_,h1,rfl⟩,h⟩
  |exit i =>
   simp only[L6]at h;split at h
   ·exact⟨_,_,_,⟨_,h1,by dsimp only;rw[if_pos (by assumption)]⟩,h⟩
   ·exact⟨_,_,_,⟨_,h1,by dsimp only;rw[if_neg (by assumption)]⟩,h⟩
  |ret=>exact⟨_,_,_,⟨_,h1,rfl⟩,h⟩
  |fx d=>exact⟨_,_,_,⟨_,h1,rfl⟩,h⟩
theorem OU(d:D):d.calm.calm=d.calm:=by cases d<;>rfl
theorem Hl{live:List Nat}{e:Env}{t:Nat}:get (restrict live e) t=if t∈live then(get e t).calm else .undef:=by
 induction live with
 |nil=>simp[restrict,get]
 |cons a l ih =>
  simp only[restrict,aM,get,bq];by_cases h:a=t
  ·subst h;simp
  ·have h':¬t=a:=fun x=>h x.symm
   simp only[if_neg h,h',false_or];exact ih
theorem xJ{live:List Nat}{e:Env}:restrict live (restrict live e)=restrict live e:=by
 simp only[restrict,List.map_inj_left,aj,true_and];intro t ht;have:=Hl (live:=live) (e:=e) (t:=t);simp only[restrict]at this;rw[this,if_pos ht,OU]
theorem vL{live:List Nat}{bk:Bool}{c:cA}:da T O (.loop live bk c (restrict live e) σ)=da T O (.loop live bk c e σ):=by
 simp only[da,xJ]
theorem xE{live:List Nat}{bk:Bool}{c:cA}{r:R}(h:lim T (.loop live bk c (restrict live e) σ)=some r):lim T (.loop live bk c e σ)=some r:=by
 obtain⟨n,h⟩:=tR.1 h;cases n with
 |zero=>cases h
 |succ n =>
  rw[it,vL]at h;exact tR.2 ⟨n+1,h⟩
theorem CC{live:List Nat}{bk:Bool}{c:cA}{r:R}(h:lim T (.loop live bk c e σ)=some r):lim T (.loop live bk c (restrict live e) σ)=some r:=by
 obtain⟨n,h⟩:=tR.1 h;cases n with
 |zero=>cases h
 |succ n =>
  rw[it,← vL]at h;exact tR.2 ⟨n+1,h⟩
theorem LG{r:Option R}{x:Exit}{e:Env}{σ:SK}(h:R.OX r=some (x,e,σ)):r=some (.BZ x e σ):=by
 unfold R.OX at h;split at h
 ·cases h;rfl
 ·cases h
@[simp,simp ↓] theorem atS{live:List Nat}{bk:Bool}{c:cA}:WC (lim T) (.loop live bk c) e σ Q=WL T live bk c (restrict live e) σ Q:=by
 simp only[WC,aW,WL,eq_iff_iff];constructor
 ·rintro⟨x,e',σ',h1,h⟩;cases hl:lim T (.loop live bk c e σ)with
  |none=>rw[hl]at h1;cases h1
  |some r =>
   rw[hl]at h1;cases r<;>cases h1;exact⟨_,_,_,CC hl,h⟩
 ·rintro⟨x,e',σ',h1,h⟩;exact⟨x,e',σ',by rw[xE h1];rfl,h⟩
def KG(T:zO)(live:List Nat)(c:cA)(Q:Exit→Env→SK→Prop)(_m:Mark c:=.mk)(_m':Mark Q:=.mk):Exit→Env→SK→Prop
 |.normal,e,σ=>WL T live false c (restrict live e) σ Q
 |.exit i,e,σ=>Q (.exit i) e σ
 |.ret,e,σ=>Q .ret e σ
 |.fx d,e,σ=>Q (.fx d) e σ
@[simp,simp ↓] theorem apl{live:List Nat}{c:cA}{d:D}:KG T live c Q .mk .mk (.fx d) e σ=Q (.fx d) e σ:=aA rfl
@[simp,simp ↓] theorem acJ{live:List Nat}{c:cA}:KG T live c Q .mk .mk .normal e σ=WL T live false c (restrict live e) σ Q:=aA rfl
@[simp,simp ↓] theorem anI{live:List Nat}{c:cA}{i:Nat}:KG T live c Q .mk .mk (.exit i) e σ=Q (.exit i) e σ:=aA rfl
@[simp,simp ↓] theorem apk{live:List Nat}{c:cA}:KG T live c Q .mk .mk .ret e σ=Q .ret e σ:=aA rfl
theorem aH{live:List Nat}{c c':cA}(hc:c=c')(h:WC (lim T) c' (restrict live e) σ (KG T live c Q .mk .mk)):WL T live false c e σ Q:=by
 rw[← hc]at h;obtain⟨x,e1,σ1,h1,h2⟩:=h;cases x with
 |normal =>
  obtain⟨x,e',σ',h3,h4⟩:=h2;exact⟨x,e',σ',gX (by simp[da,h1,xE h3]),h4⟩
 |exit i=>exact⟨_,_,_,gX (by simp[da,h1]),h2⟩
 |ret=>exact⟨_,_,_,gX (by simp[da,h1]),h2⟩
 |fx d=>exact⟨_,_,_,gX (by simp[da,h1]),h2⟩
def O2(σ:SK)(res:List CO)(d:D)(x:Exit)(e:Env)(σ1:SK):Prop :=
 (∀i,x ≠ .exit i)∧(∀d,x ≠ .fx d)∧∃ds,yO e σ1 res=some ds∧∃s,ck (σ.length-1) deep (tS ds) σ1=(d,s::σ)
@[simp,simp ↓] theorem adA{σ1:SK}{res:List CO}{d:D}:O2 σ res d .normal e σ1=∃ds,yO e σ1 res=some ds∧∃s,ck (σ.length-1) deep (tS ds) σ1=(d,s::σ):=by simp[O2]
@[simp,simp ↓] theorem aqi{σ1:SK}{res:List CO}{d:D}:O2 σ res d .ret e σ1=∃ds,yO e σ1 res=some ds∧∃s,ck (σ.length-1) deep (tS ds) σ1=(d,s::σ):=by simp[O2]
theorem au{f:Nat}{fn:Fn}{args:List D}{σ:SK}{d:D}{np:Nat}{res:List CO}{body:cA}(hT:T f=some fn)(hf:fn=⟨np,res,body⟩)(hl:args.length=np)
  (h:WC (lim T) body (mR 0 args) ([]::σ) (O2 σ res d)):
  lim T (.call false f args σ)=some (.val d σ):=by
 subst hf;obtain⟨x,e1,σ1,h1,h2,h2',ds,h3,s,h4⟩:=h;refine gX ?_;simp only[da,hT,if_pos hl,ar,if_false,h1];cases x with
 |exit i=>exact absurd rfl (h2 i)
 |fx d=>exact absurd rfl (h2' d)
 |normal=>simp[h3,h4]
 |ret=>simp[h3,h4]
def akI(σ:SK)(d:D)(x:Exit)(e:Env)(σ1:SK):Prop:=x=.fx d∧d.clean=true∧∃s,σ1=s::σ
@[simp,simp ↓] theorem aqk{σ1:SK}{d d':D}:akI σ d (.fx d') e σ1=(d'=d∧d.clean=true∧∃s,σ1=s::σ):=by simp[akI]
theorem dJ{f:Nat}{fn:Fn}{args:List D}{σ:SK}{d:D}{np:Nat}{res:List CO}{body:cA}(hT:T f=some fn)(hf:fn=⟨np,res,body⟩)(hl:args.length=np)
  (h:WC (lim T) body (mR 0 args) ([]::σ) (akI σ d)):
  lim T (.call false f args σ)=some (.fx d σ):=by
 subst hf;obtain⟨x,e1,σ1,h1,rfl,hc,s,rfl⟩:=h;refine gX ?_;simp only[da,hT,if_pos hl,ar,if_false,h1];simp[My,hc]
def WR(r:Option R)(Qn Qt:D→SK→Prop)(_m:Mark Qn:=.mk)(_m':Mark Qt:=.mk):Prop:=(∃d σ',r=some (.val d σ')∧Qn d σ')∨∃d σ',r=some (.fx d σ')∧Qt d σ'
@[simp,simp ↓] theorem aku{d:D}{σ':SK}{Qn Qt:D→SK→Prop}:WR (some (.val d σ')) Qn Qt=Qn d σ':=by
 simp only[WR,ad,R.val.injEq,reduceCtorEq,false_and,exists_false,or_false,eq_iff_iff];exact⟨fun⟨_,_,⟨h1,h2⟩,h⟩=>by subst h1 h2;exact h,fun h=>⟨_,_,⟨rfl,rfl⟩,h⟩⟩
@[simp,simp ↓] theorem akt{d:D}{σ':SK}{Qn Qt:D→SK→Prop}:WR (some (.fx d σ')) Qn Qt=Qt d σ':=by
 simp only[WR,ad,R.fx.injEq,reduceCtorEq,false_and,exists_false,false_or,eq_iff_iff];exact⟨fun⟨_,_,⟨h1,h2⟩,h⟩=>by subst h1 h2;exact h,fun h=>⟨_,_,⟨rfl,rfl⟩,h⟩⟩
def anP:D→Option D
 |.tQ t d=>if d.clean then some (.tQ t d)else none
 |_=>none
@[simp] theorem KH{t:Nat}{d:D}:anP (.tQ t d)=if d.clean then some (.tQ t d)else none:=aA rfl
@[simp] theorem aqc{O:bH}{f:Nat}{first cap args:List D}{σ:SK}:zP O (.fn f first cap) args σ=O (.call false f (first++args++cap) σ):=aA rfl
@[simp,simp ↓] theorem acb{live:List Nat}{pre post:List Op}{dst:Option Nat}{n:Bool}{f:bE}{args:List bE}:WC O (.gZ live pre ⟨dst,none,n,.call false f args⟩ post) e σ Q =
  WO O pre e σ fun e1 σ1=>WR (zP O (aZ e1 f) (args.map (aZ e1)) σ1) (fun d σ2=>WO O post (put dst d e1) σ2 fun e' σ'=>Q .normal (restrict live e') σ') (fun d σ2=>Q (.fx d) e1 σ2):=by
 simp only[WC,WO,aW,E7,af,eq_iff_iff];constructor
 ·rintro⟨x,e',σ',⟨⟨e1,σ1⟩,h1,h2⟩,h⟩;refine⟨e1,σ1,h1,?_⟩;dsimp only at h2;cases hc:zP O (aZ e1 f) (args.map (aZ e1)) σ1 with
  |none=>rw[hc]at h2;simp[uh]at h2
  |some r =>
   rw[hc]at h2;cases r with
   |BZ=>simp[uh]at h2
   |fx d σ2=>simp only[uh,ad,aj]at h2;obtain⟨rfl,rfl,rfl⟩:=h2;rw[akt];exact h
   |val d σ2 =>
    simp only[uh,ab]at h2;obtain⟨⟨e3,σ3⟩,h3,h4⟩:=h2;cases h4;rw[aku];exact⟨e3,σ3,h3,h⟩
 ·rintro⟨e1,σ1,h1,h⟩;rcases h with⟨d,σ2,h2,e3,σ3,h3,h4⟩ | ⟨d,σ2,h2,h4⟩
  ·exact⟨.normal,_,σ3,⟨(e1,σ1),h1,by simp only[h2,uh,h3,aS]⟩,h4⟩
  ·exact⟨.fx d,e1,σ2,⟨(e1,σ1),h1,by simp only[h2,uh]⟩,h4⟩
@[simp,simp ↓] theorem adx{live:List Nat}{pre post:List Op}{dst:Option Nat}{n:Bool}{x:bE}:WC O (.gZ live pre ⟨dst,none,n,.K6 x⟩ post) e σ Q =
  WO O pre e σ fun e1 σ1=>WD (anP (aZ e1 x)) fun d=>Q (.fx d) e1 σ1:=by
 simp only[WC,WO,aW,E7,af,eq_iff_iff];constructor
 ·rintro⟨x',e',σ',⟨⟨e1,σ1⟩,h1,h2⟩,h⟩;refine⟨e1,σ1,h1,?_⟩;dsimp only at h2;cases hx:aZ e1 x<;>rw[hx]at h2<;>try (cases h2;done)
  dsimp only at h2;split at h2
  ·rename_i hc;cases h2;simp only[KH,hc,if_true,C5];exact h
  ·cases h2
 ·rintro⟨e1,σ1,h1,d,h2,h⟩;refine⟨.fx d,e1,σ1,⟨(e1,σ1),h1,?_⟩,h⟩;dsimp only;cases hx:aZ e1 x<;>rw[hx]at h2<;>try (cases h2;done)
  simp only[KH]at h2;split at h2
  ·rename_i hc;cases h2;simp[hc]
  ·cases h2
def WM(T:zO)(live:List Nat)(it:bE)(nx ok b:Nat)(c rest:cA)(e:Env)(σ:SK)(Q:Exit→Env→SK→Prop)(_m:Mark c:=.mk)(_m':Mark rest:=.mk)(_m'':Mark Q:=.mk):Prop:=∃x e' σ',lim T (.iA live it nx ok b c rest e σ)=some (.BZ x e' σ')∧Q x e' σ'
theorem WM.mono{live:List Nat}{it:bE}{nx ok b:Nat}{c rest:cA}{Q':Exit→Env→SK→Prop}(h:WM T live it nx ok b c rest e σ Q)(hq:∀x e σ,Q x e σ→Q' x e σ):WM T live it nx ok b c rest e σ Q' :=
 let ⟨x,e',σ',h1,h2⟩:=h;⟨x,e',σ',h1,hq _ _ _ h2⟩
theorem vp{live:List Nat}{it:bE}{nx ok b:Nat}{c rest:cA}:da T O (.iA live it nx ok b c rest (restrict live e) σ)=da T O (.iA live it nx ok b c rest e σ):=by
 simp only[da,xJ]
theorem sH{live:List Nat}{it:bE}{nx ok b:Nat}{c rest:cA}{r:R}:lim T (.iA live it nx ok b c rest (restrict live e) σ)=some r↔lim T (.iA live it nx ok b c rest e σ)=some r:=by
 constructor<;>intro h<;>obtain⟨n,h⟩:=tR.1 h<;>cases n<;>first | (cases h;done) | skip
 ·rw[Abs.it,vp]at h;exact tR.2 ⟨_+1,h⟩
 ·rw[Abs.it,← vp]at h;exact tR.2 ⟨_+1,h⟩
@[simp,simp ↓] theorem apU{live:List Nat}{it:bE}{nx ok b:Nat}{c rest:cA}:WC (lim T) (.iA live it nx ok b c rest) e σ Q=WM T live it nx ok b c rest (restrict live e) σ Q:=by
 simp only[WC,aW,WM,eq_iff_iff];constructor
 ·rintro⟨x,e',σ',h1,h⟩;exact⟨_,_,_,sH.2 (LG h1),h⟩
 ·rintro⟨x,e',σ',h1,h⟩;exact⟨x,e',σ',by rw[sH.1 h1];rfl,h⟩
def H4(T:zO)(live:List Nat)(it:bE)(l i nx ok b:Nat)(c rest:cA)(r:R)(_m:Mark c:=.mk)(_m':Mark rest:=.mk):Exit→Env→SK→Prop
 |.normal,e,σ=>lim T (.iA live it nx ok b c rest (restrict live e) σ)=some r
 |.exit j,e,σ=>if j=b then WC (lim T) rest e (aT σ l i .dead) fun x e' σ'=>r=.BZ x e' σ' else r=.BZ (.exit j) e (aT σ l i .dead)
 |.ret,e,σ=>r=.BZ .ret e (aT σ l i .dead)
 |.fx _,_,_=>False
@[simp,simp ↓] theorem acK{live:List Nat}{it:bE}{l i nx ok b:Nat}{c rest:cA}{r:R}:H4 T live it l i nx ok b c rest r .mk .mk .normal e σ=(lim T (.iA live it nx ok b c rest (restrict live e) σ)=some r):=aA rfl
@[simp,simp ↓] theorem LZ{live:List Nat}{it:bE}{l i nx ok b j:Nat}{c rest:cA}{r:R}:H4 T live it l i nx ok b c rest r .mk .mk (.exit j) e σ=if j=b then WC (lim T) rest e (aT σ l i .dead) fun x e' σ'=>r=.BZ x e' σ' else r=.BZ (.exit j) e (aT σ l i .dead):=aA rfl
@[simp,simp ↓] theorem Py{live:List Nat}{it:bE}{l i nx ok b:Nat}{c rest:cA}{r:R}:H4 T live it l i nx ok b c rest r .mk .mk .ret e σ=(r=.BZ .ret e (aT σ l i .dead)):=aA rfl
theorem IY{l i b:Nat}{rest:cA}{r:R}{x:Exit}{e1:Env}{σ1:SK}{live:List Nat}{it:bE}{nx ok:Nat}{c:cA}(hx:x ≠ .normal)(h:H4 T live it l i nx ok b c rest r .mk .mk x e1 σ1):wM (lim T) l i b rest (some (x,e1,σ1))=some r:=by
 cases x with
 |normal=>exact absurd rfl hx
 |fx d=>exact h.elim
 |ret=>simp only[Py]at h;subst h;rfl
 |exit j =>
  simp only[LZ]at h;simp only[wM];split at h
  ·rename_i hj;obtain⟨x',e',σ',h1,rfl⟩:=h;rw[if_pos hj,h1];rfl
  ·rename_i hj;subst h;rw[if_neg hj]
theorem aaC{live:List Nat}{it:bE}{l i nx ok b:Nat}{c c' rest rest':cA}{r:R}{m:D}{n:Nat}{js:List D}{us:List Nat}(hcc:c=c')(hrr:rest=rest')(hit:aZ (restrict live e) it=.mf l i)(hd:ER σ l i=some (m,n,js,us))(hne:us≠[])
  (h:∀u∈us,WC (lim T) c' ((ok,.bool true)::(nx,.undef)::restrict live e) (aT σ l i (.cells 1 (m::.int .i64 (n:Nat)::.int .i64 (u:Nat)::js))) (H4 T live it l i nx ok b c rest' r .mk .mk)):
  lim T (.iA live it nx ok b c rest e σ)=some r:=by
 subst hcc hrr;refine gX ?_;simp only[da,hit,hd];have key:∀u∈us,zV (lim T) live it l i nx ok b c rest (aW (lim T) c ((ok,.bool true)::(nx,.undef)::restrict live e) (aT σ l i (.cells 1 (m::.int .i64 (n:Nat)::.int .i64 (u:Nat)::js))))=some r:=by
  intro u hu;obtain⟨x,e1,σ1,h1,h2⟩:=h u hu;rw[h1];cases x with
  |normal=>exact sH.1 h2
  |exit j=>exact IY (x:=.exit j) (by simp) h2
  |ret=>exact IY (x:=.ret) (by simp) h2
  |fx d=>exact h2.elim
 cases us with
 |nil=>exact absurd rfl hne
 |cons u us=>exact HB (by simp) key
theorem Ps{live:List Nat}{it:bE}{l i nx ok b:Nat}{c c' rest rest':cA}{r:R}{m:D}{n:Nat}{js:List D}(hcc:c=c')(hrr:rest=rest')(hit:aZ (restrict live e) it=.mf l i)(hd:ER σ l i=some (m,n,js,[]))
  (h:WC (lim T) c' ((ok,.bool false)::(nx,.undef)::restrict live e) σ fun x e1 σ1=>x ≠ .normal∧H4 T live it l i nx ok b c rest' r .mk .mk x e1 σ1):
  lim T (.iA live it nx ok b c rest e σ)=some r:=by
 subst hcc hrr;refine gX ?_;simp only[da,hit,hd];obtain⟨x,e1,σ1,h1,hx,h2⟩:=h;rw[h1];exact IY hx h2
def aoP:Exit→Option (Option D)
 |.normal=>some none
 |.ret=>some none
 |.fx d=>some (some d)
 |.exit _=>none
@[simp] theorem atJ:aoP .ret=some none:=aA rfl
@[simp] theorem atK{d:D}:aoP (.fx d)=some (some d):=aA rfl
noncomputable def vt(T:zO)(fv:D)(args:List D)(th:Option D)(σ:SK):Option SK :=
 match pV (lim T) fv args th σ with
 |some (.val _ σ')=>some σ'
 |_=>none
theorem uy{f:Nat}{first cap args:List D}{th:Option D}{σ σ':SK}{d:D}(h:lim T (.xj f (first++args++cap) th σ)=some (.val d σ')):vt T (.fn f first cap) args th σ=some σ':=by
 simp only[vt,pV,h]
def Ad(T:zO)(fv:D)(args:List D)(σ:SK)(res:List CO)(d:D)(x:Exit)(e:Env)(σ1:SK):Prop :=
 WD (aoP x) fun th=>WD (vt T fv args th σ1) fun σ2=>∃ds,yO e σ2 res=some ds∧∃s,ck (σ.length-1) deep (tS ds) σ2=(d,s::σ)
def Jp(T:zO)(f:bE)(args:List bE)(q:cA)(σ:SK)(res:List CO)(d:D)(x:Exit)(e:Env)(σ1:SK)(_m:Mark q:=.mk):Prop :=
 x=.normal∧WC (lim T) q e σ1 (Ad T (aZ e f) (args.map (aZ e)) σ res d)
theorem JX{f:Nat}{fn:Fn}{args:List D}{σ:SK}{d:D}{np:Nat}{res:List CO}{body A q:cA}{fo:bE}{as:List bE}(hT:T f=some fn)(hf:fn=⟨np,res,body⟩)(hl:args.length=np)(hs:jh body=some (A,fo,as,q))
  (h:WC (lim T) A (mR 0 args) ([]::σ) (Jp T fo as q σ res d)):
  lim T (.call false f args σ)=some (.val d σ):=by
 subst hf;obtain⟨x,e1,σ1,h1,rfl,x2,e2,σ2,h2,th,h3,σ3,h4,ds,h5,s,h6⟩:=h;refine gX ?_;have hn:aW (lim T) body (mR 0 args) ([]::σ)=none:=xL hs h1;simp only[da,hT,if_pos hl,ar,if_false,hn,hs,yD,h1,h2];have h4':∃dv,pV (lim T) (aZ e1 fo) (as.map (aZ e1)) th σ2=some (.val dv σ3):=by
  unfold vt at h4;split at h4
  ·rename_i h7;cases h4;exact⟨_,h7⟩
  ·cases h4
 obtain⟨dv,h4'⟩:=h4';cases x2 with
 |exit i=>cases h3
 |normal=>cases h3;simp only[yE,h4',uz,leave,h5,h6]
 |ret=>cases h3;simp only[yE,h4',uz,leave,h5,h6]
 |fx d=>cases h3;simp only[yE,h4',uz,leave,h5,h6]
def akJ(σ':SK)(res:List CO)(x:Exit)(e:Env)(σ1:SK):Prop :=
 (∀i,x ≠ .exit i)∧(∀d,x ≠ .fx d)∧yO e σ1 res=some []∧∃s,σ1=s::σ'
@[simp,simp ↓] theorem adC{σ' σ1:SK}{res:List CO}:akJ σ' res .normal e σ1=(yO e σ1 res=some []∧∃s,σ1=s::σ'):=by simp[akJ]
theorem Ax{f:Nat}{fn:Fn}{args:List D}{th:Option D}{σ σ':SK}{np:Nat}{res:List CO}{body q:cA}{e0:Env}(hT:T f=some fn)(hf:fn=⟨np,res,body⟩)(hl:args.length=np)(hr:rJ th args body=some (e0,q))
  (h:WC (lim T) q e0 ([]::σ) (akJ σ' res)):lim T (.xj f args th σ)=some (.val (.dQ []) σ'):=by
 subst hf;obtain⟨x,e1,σ1,h1,h2,h2',h3,s,rfl⟩:=h;refine gX ?_;simp only[da,hT,if_pos hl,hr,h1];cases x with
 |exit i=>exact absurd rfl (h2 i)
 |fx d=>exact absurd rfl (h2' d)
 |normal=>simp[h3]
 |ret=>simp[h3]
end code
@[simp] theorem asC{k t:Nat}{v:D}{r:Env}:get ((k,v)::r) t=if k=t then v else get r t:=aA rfl
@[simp] theorem asU{t:Nat}{v:D}{e:Env}:put (some t) v e=(t,v)::e:=aA rfl
@[simp] theorem asT{v:D}{e:Env}:put none v e=e:=aA rfl
@[simp] theorem asQ{e:Env}{n:Nat}:aZ e (.t n)=(get e n).strip:=aA rfl
@[simp] theorem avY{e:Env}{d:D}:aZ e (.c d)=d:=aA rfl
@[simp] theorem acW{e:Env}:restrict [] e=[]:=aA rfl
@[simp] theorem abt{t:Nat}{l:List Nat}{e:Env}:restrict (t::l) e=(t,(get e t).calm)::restrict l e:=aA rfl
@[simp] theorem apg{n:Nat}:mR n []=[]:=aA rfl
@[simp] theorem anD{n:Nat}{d:D}{ds:List D}:mR n (d::ds)=(n,d)::mR (n+1) ds:=aA rfl
section
variable {e:Env} {σ:SK}
@[simp] theorem as0:yO e σ []=some []:=aA rfl
@[simp] theorem apC{r:CO}{rs:List CO}:yO e σ (r::rs)=(GF e σ r).bind fun d=>(yO e σ rs).map fun ds=>d::ds:=aA rfl
@[simp] theorem avx{n:Nat}:GF e σ (.t n)=some (get e n).strip:=aA rfl
@[simp] theorem avw{n sz:Nat}{ag:Bool}:GF e σ (.c n ag sz)=K5 ag sz (Ei σ (get e n).strip):=by
 simp only[GF,bF,asQ];cases Ei σ (get e n).strip with
 |none=>rfl
 |some cs =>
  simp only[K5];split
  ·cases ag
   ·cases cs<;>rfl
   ·rfl
  ·rfl
@[simp] theorem avy{n sz:Nat}{ag:Bool}:GF e σ (.v n ag sz)=aap e n ag sz n:=by
 simp only[GF,bF,aap];cases rC e n n with
 |none=>rfl
 |some x =>
  obtain⟨s,cs,off⟩:=x;simp only[K5,aS];split
  ·cases ag
   ·cases cs.drop off<;>rfl
   ·rfl
  ·rfl
@[simp] theorem api{d:D}:tS [d]=d:=aA rfl
@[simp] theorem aph:tS []=.dQ []:=aA rfl
@[simp] theorem apj{d d':D}{ds:List D}:tS (d::d'::ds)=.dQ (d::d'::ds):=aA rfl
@[simp] theorem ao2{cs:List D}:rB e [] cs=some cs:=aA rfl
@[simp] theorem anu{off sz:Nat}{x:bE}{r:List (Nat×Nat×bE)}{cs:List D}:rB e ((off,sz,x)::r) cs =
  ((aZ e x).cells.bind fun p=>if p.length=sz∧off+sz≤cs.length then some (cs.take off++p++cs.drop (off+sz))else none).bind (rB e r):=by
 simp only[rB];cases(aZ e x).cells with
 |none=>rfl
 |some p=>dsimp only [Option.bind_some];split<;>rfl
@[simp] theorem aoY{w n:Nat}{cs:List D}:elems σ w (.aE n cs)=if cs.length=n*w then some (n,cs)else none:=aA rfl
end
attribute [simp] bF IG kq gH rC tZ aoN aap Bc bounds D.row cells? ez gj aT jg
@[simp] theorem ajy{b:Bool}:D.clean (.bool b)=true:=by rw[D.clean]
@[simp] theorem an4{k:IntKind}{n:Int}:D.clean (.int k n)=true:=by rw[D.clean]
@[simp] theorem an6{s:List UInt8}:D.clean (.str s)=true:=by rw[D.clean]
@[simp] theorem ajB:D.clean .aI=true:=by rw[D.clean]
@[simp] theorem an3{t:Nat}{d:D}:D.clean (.tQ t d)=D.clean d:=by rw[D.clean]
@[simp] theorem ajA:D.clean .ir=true:=by rw[D.clean]
@[simp] theorem apB{l i v o n w:Nat}:D.clean (.sl l i v o n w)=false:=by rw[D.clean]
@[simp] theorem an2{cs:List D}:D.clean (.agg cs)=D.bu cs:=by rw[D.clean]
@[simp] theorem an8{cs:List D}:D.clean (.dQ cs)=D.bu cs:=by rw[D.clean]
@[simp] theorem ajz{cs:List D}:D.clean (.bw cs)=D.bu cs:=by rw[D.clean]
@[simp] theorem an5{n:Nat}{cs:List D}:D.clean (.aE n cs)=D.bu cs:=by rw[D.clean]
@[simp] theorem apA{f:Nat}{a b:List D}:D.clean (.fn f a b)=(D.bu a && D.bu b):=by rw[D.clean]
@[simp] theorem akB:D.bu []=true:=by rw[D.bu]
@[simp] theorem adz{d:D}{ds:List D}:D.bu (d::ds)=(D.clean d && D.bu ds):=by rw[D.bu]
@[simp] theorem Q7:deep=16:=aA rfl
@[simp] theorem kV{l n:Nat}{d:D}{σ:SK}(h:d.clean=true)(hn:0<n):ck l n d σ=(d,σ):=by
 obtain⟨m,rfl⟩:∃m,n=m+1:=⟨n-1,by omega⟩;unfold ck;simp[h]
@[simp] theorem anv{l n:Nat}{ds:List D}{σ:SK}(h:D.bu ds=true)(hn:0<n):ck.frzL (ck l n) ds σ=(ds,σ):=by
 induction ds generalizing σ with
 |nil=>rfl
 |cons d ds ih =>
  simp only[D.bu,ae]at h;simp[ck.frzL,h.1,ih h.2,hn]
@[simp] theorem yH{f:D→SK→D×SK}{σ:SK}:ck.frzL f [] σ=([],σ):=aA rfl
@[simp] theorem we{f:D→SK→D×SK}{d:D}{ds:List D}{σ:SK}:ck.frzL f (d::ds) σ=((f d σ).1::(ck.frzL f ds (f d σ).2).1,(ck.frzL f ds (f d σ).2).2):=aA rfl
theorem Dh{l n:Nat}{ds:List D}{σ:SK}(h:D.bu ds=false)(hn:0<n):ck l n (.dQ ds) σ=(.dQ (ck.frzL (ck l (n-1)) ds σ).1,(ck.frzL (ck l (n-1)) ds σ).2):=by
 obtain⟨m,rfl⟩:∃m,n=m+1:=⟨n-1,by omega⟩
 conv=>lhs;unfold ck
 simp[D.clean,h]
theorem IS{l n:Nat}{ds:List D}{σ:SK}(h:D.bu ds=false)(hn:0<n):ck l n (.agg ds) σ=(.agg (ck.frzL (ck l (n-1)) ds σ).1,(ck.frzL (ck l (n-1)) ds σ).2):=by
 obtain⟨m,rfl⟩:∃m,n=m+1:=⟨n-1,by omega⟩
 conv=>lhs;unfold ck
 simp[D.clean,h]
theorem AG{l n l' i v off m w:Nat}{σ:SK}{cs:List D}(h:¬l'≤l)(hc:cells? σ l' i v=some cs)(hn:0<n):
  ck l n (.sl l' i v off m w) σ=(.aE m (ck.frzL (ck l (n-1)) ((cs.drop off).take (m*w)) (aT σ l' i .dead)).1,(ck.frzL (ck l (n-1)) ((cs.drop off).take (m*w)) (aT σ l' i .dead)).2):=by
 obtain⟨m,rfl⟩:∃m,n=m+1:=⟨n-1,by omega⟩
 conv=>lhs;unfold ck
 simp only[D.clean,h,hc,ar,if_false,Nat.add_sub_cancel]
@[simp] theorem anx{l n l' i v off m w:Nat}{σ:SK}(h:l'≤l)(hn:0<n):ck l n (.sl l' i v off m w) σ=(.sl l' i v off m w,σ):=by
 obtain⟨m,rfl⟩:∃m,n=m+1:=⟨n-1,by omega⟩
 conv=>lhs;unfold ck
 simp only[D.clean,h,if_true,ar,if_false]
@[simp] theorem ajk{l n l' i v off:Nat}{σ:SK}(h:l'≤l)(hn:0<n):ck l n (.ref l' i v off) σ=(.ref l' i v off,σ):=by
 obtain⟨m,rfl⟩:∃m,n=m+1:=⟨n-1,by omega⟩
 conv=>lhs;unfold ck
 simp only[D.clean,h,if_true,ar,if_false]
@[simp] theorem avn{n:Nat}:(n+1+1=n)=False:=by simp;omega
@[simp] theorem avo{n:Nat}:(n+1+1+1=n)=False:=by simp;omega
@[simp] theorem avp{n:Nat}:(n+1+1+1+1=n)=False:=by simp;omega
@[simp] theorem avq{n:Nat}:(n+1+1+1+1+1=n)=False:=by simp;omega
theorem BX{a b:List D}:D.bu (a++b)=(D.bu a && D.bu b):=by
 induction a with
 |nil=>rfl
 |cons d a ih=>simp[D.bu,ih,Bool.and_assoc]
end Go.Abs
