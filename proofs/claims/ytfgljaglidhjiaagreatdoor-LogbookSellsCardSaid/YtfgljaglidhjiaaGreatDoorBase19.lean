import Derived.Test.YtfgljaglidhjiaaGreatDoorBase12
import Derived.Lib.LaidTab
import Derived.LaidLaws
import Derived.Shelf.Vars
set_option linter.all false
namespace Go.Abs
open Go
theorem PG{P:Program}{w:World}:∀{l:List (String×DataW Unit)} {ps:List MemPlace},DataW.LaidVars P w l ps→∀x∈l,
  ∃g t cs fuel p,P.globalNamed x.1=some g∧(P.globals[g]?).map (·.type)=some t∧w.var? P x.1=some cs∧DataW.trod (fun _=>()) P w 0 (fun _=>true) false fuel t cs.toList=some (x.2,p) ∧
   ∀m∈MemPlace.row ⟨g,0,none⟩ cs.size,m∈ps
 |[],_,_,x,hx=>by cases hx
 |(n,d)::r,ps,h,x,hx=>by
  obtain⟨g,t,cs,fuel,p,q,h1,h2,h3,h4,h5,rfl⟩:=h;rcases aW.1 hx with rfl | hx
  ·exact⟨g,t,cs,fuel,p,h1,h2,h3,h4,fun m hm=>by simp[hm]⟩
  ·obtain⟨g',t',cs',f',p',k1,k2,k3,k4,k5⟩:=PG h5 x hx;exact⟨g',t',cs',f',p',k1,k2,k3,k4,fun m hm=>by simp[k5 m hm]⟩
theorem IC{P:Program}{w:World}{l:List (String×DataW Unit)}(hl:laidMet P l w){n:String}{d:DataW Unit}(hx:(n,d)∈l){b t:Nat}(hb:P.globalNamed n=some b)(ht:(P.globals[b]?).map (·.type)=some t):
  ∃cs fuel p,DataW.trod (fun _=>()) P w 0 (fun _=>true) false fuel t cs.toList=some (d,p)∧(0<cs.size→∃t',w.heap[b]?=some (.cells cs t' (0,0))):=by
 obtain⟨ps,h1,_,h2⟩:=hl;obtain⟨g,t',cs,fuel,p,k1,k2,k3,k4,k5⟩:=PG h1 _ hx;obtain rfl:=Option.some.inj (hb.symm.trans k1);obtain rfl:=Option.some.inj (ht.symm.trans k2);refine⟨cs,fuel,p,k4,fun hpos=>?_⟩;obtain⟨⟨c,t',hc⟩,_⟩:=h2 b 0 (k5 _ (by simp only[MemPlace.row,bK,List.mem_range];exact⟨0,hpos,by simp⟩));simp only[World.var?,hb,Option.bind_some,hc,ae]at k3;subst k3;exact⟨t',hc⟩
theorem Pw{P:Program}{w:World}{l:List (String×DataW Unit)}(hl:laidMet P l w){n nm:String}{d:DataW Unit}(hx:(n,.iface nm d)∈l){b t:Nat}{ms:Array (String×TypeId)}(hb:P.globalNamed n=some b)
  (ht:(P.globals[b]?).map (·.type)=some t) (hu:P.underlying t=some (.interface ms)):∃c t v,w.heap[b]?=some (.cells c t (0,0))∧c[0]?=some v∧v.oneCell'=true∧afr (.cells c t (0,0)):=by
 obtain⟨cs,fuel,p,h1,h2⟩:=IC hl hx hb ht;obtain⟨f1,u,v,hcs,_⟩:=iface_of_trod hu h1;obtain rfl:cs = #[.iface u v]:=by rw[← gM,hcs]
 obtain⟨t',hc⟩:=h2 (by simp);exact⟨_,t',.iface u v,hc,by simp,rfl,_,t',_,.iface u v,rfl,by simp,.inr ⟨u,v,rfl⟩⟩
theorem afL{P:Program}{w:World}{l:List (String×DataW Unit)}(hl:laidMet P l w){n:String}(hx:(n,Lib.tabData .u64 Lib.pow10Tab)∈l){b t e k:Nat}(hb:P.globalNamed n=some b)
  (ht:(P.globals[b]?).map (·.type)=some t) (hu:P.underlying t=some (.array k e)) (he:P.underlying e=some (.int .u64)) (hce:P.cellsOf e=1) (hct:P.cellsOf t=k):
  ∃c t v,w.heap[b]?=some (.cells c t (0,0))∧c[0]?=some v∧v.oneCell'=true∧amz (.cells c t (0,0)):=by
 obtain⟨cs,fuel,p,h1,h2⟩:=IC hl hx hb ht;have hcs:=Lib.cells_of_tab hu he hce hct h1;obtain rfl:cs=(Lib.pow10Tab.map (Value.int .u64)).toArray:=by rw[← gM,hcs]
 obtain⟨t',hc⟩:=h2 (by decide);exact⟨_,t',.int .u64 1,hc,rfl,rfl,t',_,rfl⟩
theorem afK{P:Program}{w:World}(h:w.ShapedOpen P){g t:Nat}{zero:Array Value}(hg:g<P.globals.size)(h0:((begin P (fun _ _=>0) default).world.heap[g]?).bind Obj.row?=some (zero,t))(hz:zero.size=1)
  (hb:P.buildable t=true) (hc:P.cellTypes P.depth t=some [t]) (hu:P.underlying t=some (.int .i64)):∃c t v,w.heap[g]?=some (.cells c t (0,0))∧c[0]?=some v∧v.oneCell'=true∧amy (.cells c t (0,0)):=by
 obtain⟨m,hm⟩:=Go.Proofs.cell_of_shapedOpen_int h hg h0 hz hb hc hu;obtain⟨cs,hh,_⟩:=h.1 g zero t hg h0;have h1:cs[0]?=some (.int .i64 m):=by simpa[World.cell?,hh]using hm
 exact⟨cs,t,_,hh,h1,rfl,cs,t,_,m,rfl,h1⟩
variable {T:yo} {O:bN}
theorem aD.{u}{α:Sort u}{a b:α}(h:a=b):a=b:=h
inductive Mark.{u} {α:Sort u} (a:α):Type
 |mk
def WO(O:bN)(ops:List Op)(e:Env)(σ:SK)(Q:Env→SK→Prop)(_m:Mark Q:=.mk):Prop:=∃e' σ',mm O ops e σ=some (e',σ')∧Q e' σ'
def WC(O:bN)(c:cH)(e:Env)(σ:SK)(Q:Exit→Env→SK→Prop)(_m:Mark c:=.mk)(_m':Mark Q:=.mk):Prop:=∃x e' σ',aY O c e σ=some (x,e',σ')∧Q x e' σ'
def WV(o:Option (D×SK))(Q:D→SK→Prop)(_m:Mark Q:=.mk):Prop:=∃d σ',o=some (d,σ')∧Q d σ'
def WL(T:yo)(live:List Nat)(bw:Bool)(c:cH)(e:Env)(σ:SK)(Q:Exit→Env→SK→Prop)(_m:Mark c:=.mk)(_m':Mark Q:=.mk):Prop:=∃x e' σ',lim T (.loop live bw c e σ)=some (.Cv x e' σ')∧Q x e' σ'
theorem WO.mono{ops:List Op}{e:Env}{σ:SK}{Q Q':Env→SK→Prop}(h:WO O ops e σ Q)(hq:∀e σ,Q e σ→Q' e σ):WO O ops e σ Q' :=
 let ⟨e',σ',h1,h2⟩:=h;⟨e',σ',h1,hq _ _ h2⟩
theorem WC.mono{c:cH}{e:Env}{σ:SK}{Q Q':Exit→Env→SK→Prop}(h:WC O c e σ Q)(hq:∀x e σ,Q x e σ→Q' x e σ):WC O c e σ Q' :=
 let ⟨x,e',σ',h1,h2⟩:=h;⟨x,e',σ',h1,hq _ _ _ h2⟩
theorem WL.mono{live:List Nat}{bw:Bool}{c:cH}{e:Env}{σ:SK}{Q Q':Exit→Env→SK→Prop}(h:WL T live bw c e σ Q)(hq:∀x e σ,Q x e σ→Q' x e σ):WL T live bw c e σ Q' :=
 let ⟨x,e',σ',h1,h2⟩:=h;⟨x,e',σ',h1,hq _ _ _ h2⟩
def WD{α:Type}(o:Option α)(Q:α→Prop)(_m:Mark Q:=.mk):Prop:=∃d,o=some d∧Q d
@[simp,simp ↓] theorem DB{α:Type}{d:α}{Q:α→Prop}:WD (some d) Q=Q d:=by
 simp only[WD,ae,eq_iff_iff];exact⟨fun⟨_,h,h'⟩=>by rw[h];exact h',fun h=>⟨_,rfl,h⟩⟩
@[simp,simp ↓] theorem afw{α:Type}{Q:α→Prop}:WD none Q=False:=by simp[WD]
def Ku:D→Option Bool
 |.bool b=>some b
 |_=>none
@[simp] theorem amJ{b:Bool}:Ku (.bool b)=some b:=aD rfl
@[simp] theorem as4{b:Bool}:(D.bool b).bit=some (some b):=aD rfl
@[simp] theorem awL:(D.dG []).bit=some none:=aD rfl
def amP(k:IntKind):D→Option D
 |.int _ m=>some (.int k (k.wrap m))
 |_=>none
@[simp] theorem ata{k k':IntKind}{m:Int}:amP k (.int k' m)=some (.int k (k.wrap m)):=aD rfl
@[simp,simp ↓] theorem awE{d:D}{σ:SK}{Q:D→SK→Prop}:WV (some (d,σ)) Q=Q d σ:=by
 simp only[WV,ae,ak,eq_iff_iff];constructor
 ·rintro⟨_,_,⟨rfl,rfl⟩,h⟩;exact h
 ·exact fun h=>⟨_,_,⟨rfl,rfl⟩,h⟩
@[simp,simp ↓] theorem awD{Q:D→SK→Prop}:WV none Q=False:=by simp[WV]
@[simp,simp ↓] theorem axI{e:Env}{σ:SK}{Q:Env→SK→Prop}:WO O [] e σ Q=Q e σ:=by
 simp only[WO,mm,ae,ak,eq_iff_iff];constructor
 ·rintro⟨_,_,⟨rfl,rfl⟩,h⟩;exact h
 ·exact fun h=>⟨_,_,⟨rfl,rfl⟩,h⟩
def ay5(d:D)(w:Bool):Option Bool :=
 match d with
 |.bool b=>some (b == w)
 |_=>none
@[simp,simp ↓] theorem axy{d:Option Nat}{g:Nat}{w n:Bool}{k:K}{r:List Op}{e:Env}{σ:SK}{Q:Env→SK→Prop}:
  WO O (⟨d,some (g,w),n,k⟩::r) e σ Q=WD (get e g).bit fun b=>if b=some w then WO O (⟨d,none,n,k⟩::r) e σ Q else WO O r (put d (.dG []) e) σ Q:=by
 cases h:(get e g).bit<;>simp only[WO,mm,h,reduceCtorEq,false_and,exists_false,afw,DB];rename_i b;by_cases hb:b=some w
 ·simp only[hb,if_true];rfl
 ·simp only[if_neg hb]
theorem dV{d:Option Nat}{n:Bool}{k:K}{r:List Op}{e:Env}{σ:SK}{Q:Env→SK→Prop}(h:vG O ⟨d,none,n,k⟩ e σ=(bM e σ k).map fun x=>(put d x.1 e,x.2)):
  WO O (⟨d,none,n,k⟩::r) e σ Q=WV (bM e σ k) fun v σ'=>WO O r (put d v e) σ' Q:=by
 simp only[WO,mm,h,WV,eq_iff_iff];constructor
 ·rintro⟨e',σ',h1,h2⟩;cases hs:bM e σ k with
  |none=>simp[hs]at h1
  |some y=>simp[hs]at h1;exact⟨y.1,y.2,rfl,e',σ',h1,h2⟩
 ·rintro⟨v,σ1,h1,e',σ',h2,h3⟩;exact⟨e',σ',by simp[h1,h2],h3⟩
theorem nC{o:Option (D×SK)}{o':Option D}{σ:SK}{Q:D→SK→Prop}(h:o=o'.map (·,σ)):WV o Q=WD o' fun v=>Q v σ:=by
 subst h;cases o'<;>simp
def adL:D→Option D
 |.aF=>some (.int .i64 0)
 |.aH n _=>some (.int .i64 n)
 |.sl _ _ _ _ n _=>some (.int .i64 n)
 |_=>none
@[simp] theorem ar8:adL .aF=some (.int .i64 0):=aD rfl
@[simp] theorem au4{n:Nat}{cs:List D}:adL (.aH n cs)=some (.int .i64 n):=aD rfl
@[simp] theorem awW{l i v o n w:Nat}:adL (.sl l i v o n w)=some (.int .i64 n):=aD rfl
def LV(ag:Bool)(sz:Nat):Option (List D)→Option D
 |some cs =>
  if sz≤cs.length then
   if ag then some (.agg (cs.take sz))else
   match cs with
   |d::_=>some d
   |[]=>none
  else none
 |none=>none
@[simp] theorem axX{sz:Nat}{cs:List D}:LV true sz (some cs)=if sz≤cs.length then some (.agg (cs.take sz))else none:=aD rfl
@[simp] theorem awU{d:D}{cs:List D}:LV false 1 (some (d::cs))=some d:=by simp[LV]
@[simp] theorem avi{σ:SK}{cs:List D}:EV σ (.bF cs)=some cs:=aD rfl
@[simp] theorem aw0{σ:SK}{l i v off:Nat}:EV σ (.ref l i v off)=(cells? σ l i v).map (·.drop off):=aD rfl
def adK(e:Env)(v:Nat)(ag:Bool)(sz a:Nat):Option D:=LV ag sz ((rM e v a).map fun x=>x.2.1.drop x.2.2)
def S0:D→Option (List D)
 |.bF cs=>some cs
 |_=>none
@[simp] theorem amN{cs:List D}:S0 (.bF cs)=some cs:=aD rfl
@[simp] theorem ar6:HT false .aF=some true:=aD rfl
@[simp] theorem au0{n:Nat}{cs:List D}:HT false (.aH n cs)=if n=0 then none else some false:=aD rfl
def au8:D→Option D
 |.bF cs=>some (.bF cs)
 |.ref l i v off=>some (.ref l i v off)
 |_=>none
@[simp] theorem au9{l i v off:Nat}:au8 (.ref l i v off)=some (.ref l i v off):=aD rfl
def unD:UnOp→D→Option D
 |.not,.bool b=>some (.bool !b)
 |.neg,.int k n=>some (.int k (k.wrap (0-n)))
 |.xor,.int k n=>some (.int k (k.wrap ((BitVec.ofInt k.bits (if k.signed then -1 else k.max) ^^^ BitVec.ofInt k.bits n).toNat:Int)))
 |_,_=>none
@[simp] theorem aw8{b:Bool}:unD .not (.bool b)=some (.bool !b):=aD rfl
@[simp] theorem aw7{k:IntKind}{n:Int}:unD .neg (.int k n)=some (.int k (k.wrap (0-n))):=aD rfl
def KQ(n off:Nat):D→Option D
 |.bF cs=>some (.bF (cs.drop off))
 |.ref l i v o=>some (.ref l i v (o+off))
 |.own s _=>some (.vr n s off)
 |.vr v s o=>some (.vr v s (o+off))
 |_=>none
@[simp] theorem aqq{n off:Nat}{cs:List D}:KQ n off (.bF cs)=some (.bF (cs.drop off)):=aD rfl
@[simp] theorem arW{n off l i v o:Nat}:KQ n off (.ref l i v o)=some (.ref l i v (o+off)):=aD rfl
@[simp] theorem arV{n off s:Nat}{cs:List D}:KQ n off (.own s cs)=some (.vr n s off):=aD rfl
@[simp] theorem auN{n off v s o:Nat}:KQ n off (.vr v s o)=some (.vr v s (o+off)):=aD rfl
def azv(ag:Bool)(off sz:Nat):D→Option D
 |.agg cs =>
  if off+sz≤cs.length then
   if ag then some (.agg ((cs.drop off).take sz))else cs[off]?
  else none
 |_=>none
def PA(m len w:Nat)(x i:D):Option D :=
 match DT i with
 |some n =>
  if 0≤n∧n<len then
   match x with
   |.bF cs=>some (.bF ((cs.drop (n.toNat*w)).take w))
   |.ref l j v off=>some (.ref l j v (off+n.toNat*w))
   |.own s _=>some (.vr m s (n.toNat*w))
   |.vr v s o=>some (.vr v s (o+n.toNat*w))
   |_=>none
  else none
 |none=>none
@[simp] theorem aqw{m len w:Nat}{cs:List D}{k:IntKind}{n:Int}:PA m len w (.bF cs) (.int k n)=if 0≤n∧n<len then some (.bF ((cs.drop (n.toNat*w)).take w))else none:=aD rfl
@[simp] theorem ar2{m len w l j v off:Nat}{k:IntKind}{n:Int}:PA m len w (.ref l j v off) (.int k n)=if 0≤n∧n<len then some (.ref l j v (off+n.toNat*w))else none:=aD rfl
def PB(w:Nat)(x i:D):Option D :=
 match x,DT i with
 |.aH m cs,some n=>if 0≤n∧n<m then some (.bF ((cs.drop (n.toNat*w)).take w))else none
 |.sl l j v off m w',some n=>if 0≤n∧n<m∧w'=w then some (.ref l j v (off+n.toNat*w))else none
 |_,_=>none
@[simp] theorem ar3{w m:Nat}{cs:List D}{k:IntKind}{n:Int}:PB w (.aH m cs) (.int k n)=if 0≤n∧n<m then some (.bF ((cs.drop (n.toNat*w)).take w))else none:=aD rfl
@[simp] theorem auX{w l j v off m w':Nat}{k:IntKind}{n:Int}:PB w (.sl l j v off m w') (.int k n)=if 0≤n∧n<m∧w'=w then some (.ref l j v (off+n.toNat*w))else none:=aD rfl
def adv(ag:Bool)(len w:Nat)(x i:D):Option D :=
 match x,DT i with
 |.agg cs,some n =>
  if 0≤n∧n<len∧(n.toNat+1)*w≤cs.length then
   if ag then some (.agg ((cs.drop (n.toNat*w)).take w))else cs[n.toNat*w]?
  else none
 |_,_=>none
@[simp] theorem ar4{ag:Bool}{len w:Nat}{cs:List D}{k:IntKind}{n:Int}:adv ag len w (.agg cs) (.int k n)=if 0≤n∧n<len∧(n.toNat+1)*w≤cs.length then(if ag then some (.agg ((cs.drop (n.toNat*w)).take w))else cs[n.toNat*w]?)else none:=aD rfl
def mnD(x y:D):Option D :=
 match x,y with
 |.int k a,.int _ b=>some (.int k (min a b))
 |_,_=>none
@[simp] theorem awX{k k':IntKind}{a b:Int}:mnD (.int k a) (.int k' b)=some (.int k (min a b)):=aD rfl
def mxD(x y:D):Option D :=
 match x,y with
 |.int k a,.int _ b=>some (.int k (max a b))
 |_,_=>none
@[simp] theorem awY{k k':IntKind}{a b:Int}:mxD (.int k a) (.int k' b)=some (.int k (max a b)):=aD rfl
def ati(x:D)(i:Nat):Option D :=
 match x with
 |.dG ds=>ds[i]?
 |_=>none
@[simp] theorem atj{ds:List D}{i:Nat}:ati (.dG ds) i=ds[i]?:=aD rfl
def amW(ag:Bool)(ks:List (Option IntKind))(neg:Bool)(x y:D):Option D :=
 match x.row ag,y.row ag with
 |some p,some q=>(zK ks p q).map fun b => .bool (if neg then !b else b)
 |_,_=>none
@[simp] theorem awO{ks:List (Option IntKind)}{neg:Bool}{p q:List D}:amW true ks neg (.agg p) (.agg q)=(zK ks p q).map fun b => .bool (if neg then !b else b):=aD rfl
@[simp] theorem avk:zK [] [] []=some true:=aD rfl
@[simp] theorem avj{k k1 k2:IntKind}{ks:List (Option IntKind)}{a b:Int}{x y:List D}:zK (some k::ks) (.int k1 a::x) (.int k2 b::y)=if k1=k∧k2=k then(zK ks x y).map (a == b && ·)else none:=aD rfl
def agn(w:Nat)(x:D)(e:Env)(lo hi mx:Option bL):Option D :=
 match x with
 |.aH n cs=>(bounds n e lo hi mx).map fun b => .aH (b.2-b.1) ((cs.drop (b.1*w)).take ((b.2-b.1)*w))
 |.sl l i v off n w'=>if w'=w then(bounds n e lo hi mx).map fun b => .sl l i v (off+b.1*w) (b.2-b.1) w else none
 |.aF=>(bounds 0 e lo hi mx).map fun _ => .aF
 |_=>none
@[simp] theorem avW{w n:Nat}{cs:List D}{e:Env}{lo hi mx:Option bL}:agn w (.aH n cs) e lo hi mx=(bounds n e lo hi mx).map fun b => .aH (b.2-b.1) ((cs.drop (b.1*w)).take ((b.2-b.1)*w)):=aD rfl
@[simp] theorem aw2{w l i v off n w':Nat}{e:Env}{lo hi mx:Option bL}:agn w (.sl l i v off n w') e lo hi mx=if w'=w then(bounds n e lo hi mx).map fun b => .sl l i v (off+b.1*w) (b.2-b.1) w else none:=aD rfl
section bins
variable {k:IntKind} {a b:Int}
@[simp] theorem asT:vl .add (.int k a) (.int k b)=some (.int k (k.wrap (a+b))):=by simp[vl]
@[simp] theorem as3:vl .sub (.int k a) (.int k b)=some (.int k (k.wrap (a-b))):=by simp[vl]
@[simp] theorem asZ:vl .mul (.int k a) (.int k b)=some (.int k (k.wrap (a*b))):=by simp[vl]
@[simp] theorem as1:vl .quo (.int k a) (.int k b)=if b≠0 then some (.int k (k.wrap (a.tdiv b)))else none:=by simp[vl]
@[simp] theorem as2:vl .rem (.int k a) (.int k b)=if b≠0 then some (.int k (a.tmod b))else none:=by simp[vl]
@[simp] theorem asU:vl .eql (.int k a) (.int k b)=some (.bool (a == b)):=by simp[vl]
@[simp] theorem as0:vl .neq (.int k a) (.int k b)=some (.bool (a != b)):=by simp[vl]
@[simp] theorem asY:vl .lss (.int k a) (.int k b)=some (.bool (decide (a<b))):=by simp[vl]
@[simp] theorem asX:vl .leq (.int k a) (.int k b)=some (.bool (decide (a≤b))):=by simp[vl]
@[simp] theorem asW:vl .gtr (.int k a) (.int k b)=some (.bool (decide (b<a))):=by simp[vl]
@[simp] theorem asV:vl .geq (.int k a) (.int k b)=some (.bool (decide (b≤a))):=by simp[vl]
end bins
@[simp] theorem agj:D.strip .undef=.undef:=aD rfl
@[simp] theorem alO{b:Bool}:D.strip (.bool b)=.bool b:=aD rfl
@[simp] theorem arc{k:IntKind}{n:Int}:D.strip (.int k n)=.int k n:=aD rfl
@[simp] theorem arf{s:List UInt8}:D.strip (.str s)=.str s:=aD rfl
@[simp] theorem ara{cs:List D}:D.strip (.agg cs)=.agg cs:=aD rfl
@[simp] theorem arh{cs:List D}:D.strip (.dG cs)=.dG cs:=aD rfl
@[simp] theorem are{l i v o:Nat}:D.strip (.ref l i v o)=.ref l i v o:=aD rfl
@[simp] theorem alP{cs:List D}:D.strip (.bF cs)=.bF cs:=aD rfl
@[simp] theorem alR:D.strip .aF=.aF:=aD rfl
@[simp] theorem ard{n:Nat}{cs:List D}:D.strip (.aH n cs)=.aH n cs:=aD rfl
@[simp] theorem asy{l i v o n w:Nat}:D.strip (.sl l i v o n w)=.sl l i v o n w:=aD rfl
@[simp] theorem asx{f:Nat}{a b:List D}:D.strip (.fn f a b)=.fn f a b:=aD rfl
@[simp] theorem arb{t:Nat}{d:D}:D.strip (.tW t d)=.tW t d:=aD rfl
@[simp] theorem alQ:D.strip .o6=.o6:=aD rfl
@[simp] theorem asj{t:Nat}{d:D}:D.calm (.tW t d)=.tW t d:=aD rfl
@[simp] theorem aqT:D.calm .o6=.o6:=aD rfl
@[simp] theorem ari{l i:Nat}:D.strip (.mq l i)=.mq l i:=aD rfl
@[simp] theorem alH:D.calm .undef=.undef:=aD rfl
@[simp] theorem aqR{b:Bool}:D.calm (.bool b)=.bool b:=aD rfl
@[simp] theorem asl{k:IntKind}{n:Int}:D.calm (.int k n)=.int k n:=aD rfl
@[simp] theorem asq{s:List UInt8}:D.calm (.str s)=.str s:=aD rfl
@[simp] theorem asi{cs:List D}:D.calm (.agg cs)=.agg cs:=aD rfl
@[simp] theorem aso{l i v o:Nat}:D.calm (.ref l i v o)=.ref l i v o:=aD rfl
@[simp] theorem aqS{cs:List D}:D.calm (.bF cs)=.bF cs:=aD rfl
@[simp] theorem aqU:D.calm .aF=.aF:=aD rfl
@[simp] theorem asm{n:Nat}{cs:List D}:D.calm (.aH n cs)=.aH n cs:=aD rfl
@[simp] theorem avh{l i v o n w:Nat}:D.calm (.sl l i v o n w)=.sl l i v o n w:=aD rfl
@[simp] theorem avg{f:Nat}{a b:List D}:D.calm (.fn f a b)=.fn f a b:=aD rfl
@[simp] theorem asr{l i:Nat}:D.calm (.mq l i)=.mq l i:=aD rfl
@[simp] theorem asn{s:Nat}{cs:List D}:D.calm (.own s cs)=.own 0 cs:=aD rfl
@[simp] theorem alI{b:Bool}:D.cells (.bool b)=some [.bool b]:=aD rfl
@[simp] theorem aqW{k:IntKind}{n:Int}:D.cells (.int k n)=some [.int k n]:=aD rfl
@[simp] theorem aqZ{s:List UInt8}:D.cells (.str s)=some [.str s]:=aD rfl
@[simp] theorem aqV{cs:List D}:D.cells (.agg cs)=some cs:=aD rfl
@[simp] theorem aqY{l i v o:Nat}:D.cells (.ref l i v o)=some [.ref l i v o]:=aD rfl
@[simp] theorem aqX{n:Nat}{cs:List D}:D.cells (.aH n cs)=some [.aH n cs]:=aD rfl
@[simp] theorem ast{l i v o n w:Nat}:D.cells (.sl l i v o n w)=some [.sl l i v o n w]:=aD rfl
@[simp] theorem ass{f:Nat}{a b:List D}:D.cells (.fn f a b)=some [.fn f a b]:=aD rfl
@[simp] theorem aq0{l i:Nat}:D.cells (.mq l i)=some [.mq l i]:=aD rfl
@[simp] theorem auY{k:IntKind}{n:Int}:DT (.int k n)=some n:=aD rfl
@[simp] theorem rV{O:bN}{kp:Bool}{f:Nat}{first cap args:List D}{σ:SK}:o9 O kp (.fn f first cap) args σ=R.bh (O (.call kp f (first++args++cap) σ)):=aD rfl
@[simp] theorem arR{O:bN}{kp:Bool}{l i:Nat}{args:List D}{σ:SK}:o9 O kp (.mq l i) args σ=R.bh (O (.round l i args σ)):=aD rfl
@[simp] theorem av4{d:D}{σ:SK}:R.bh (some (.val d σ))=some (d,σ):=aD rfl
section ops
variable {d:Option Nat} {n:Bool} {r:List Op} {e:Env} {σ:SK} {Q:Env→SK→Prop}
@[simp,simp ↓] theorem ayC{x:bL}:WO O (⟨d,none,n,.mv x⟩::r) e σ Q=WO O r (put d (bf e x) e) σ Q:=by rw[dV rfl];simp[bM]
@[simp,simp ↓] theorem awB{w:Nat}:WO O (⟨d,none,n,.pq w⟩::r) e σ Q=WV (bM e σ (.pq w)) fun v σ'=>WO O r (put d v e) σ' Q:=dV rfl
@[simp,simp ↓] theorem axn{nb:List (Nat×Nat)}{cs:List D}:WO O (⟨d,none,n,.HM nb cs⟩::r) e σ Q=WV (bM e σ (.HM nb cs)) fun v σ'=>WO O r (put d v e) σ' Q:=dV rfl
@[simp,simp ↓] theorem awC{c a b:bL}:WO O (⟨d,none,n,.pick c a b⟩::r) e σ Q=WD (Ku (bf e c)) fun t=>WO O r (put d (if t then bf e a else bf e b) e) σ Q:=by
 rw[dV rfl];simp only[bM];cases bf e c<;>simp[Ku]
@[simp,simp ↓] theorem aws{x:bL}:WO O (⟨d,none,n,.HN x⟩::r) e σ Q=WD (bf e x).cells fun cs=>WO O r (put d (.bF cs) e) σ Q:=by
 rw[dV rfl];simp only[bM];cases(bf e x).cells<;>simp
@[simp,simp ↓] theorem awt{x:bL}:WO O (⟨d,none,n,.HO x⟩::r) e σ Q=WV (bM e σ (.HO x)) fun v σ'=>WO O r (put d v e) σ' Q:=dV rfl
@[simp,simp ↓] theorem axu{nb:List (Nat×Nat)}{x:bL}:WO O (⟨d,none,n,.bxn nb x⟩::r) e σ Q=WV (bM e σ (.bxn nb x)) fun v σ'=>WO O r (put d v e) σ' Q:=dV rfl
@[simp,simp ↓] theorem axr{z:List D}{ps:List (Nat×Nat×bL)}:WO O (⟨d,none,n,.lq z ps⟩::r) e σ Q=WD (rL e ps z) fun cs=>WO O r (put d (.agg cs) e) σ Q:=by
 rw[dV rfl];simp only[bM];cases rL e ps z<;>simp
@[simp,simp ↓] theorem axs{m w:Nat}{z:List D}{ps:List (Nat×Nat×bL)}:WO O (⟨d,none,n,.ur m w z ps⟩::r) e σ Q=WD (rL e ps z) fun cs=>WO O r (put d (.aH m cs) e) σ Q:=by
 rw[dV rfl];simp only[bM];cases rL e ps z<;>simp
@[simp,simp ↓] theorem axt{m w:Nat}{z:List D}{ps:List (Nat×Nat×bL)}:WO O (⟨d,none,n,.Kw m w z ps⟩::r) e σ Q=WV (bM e σ (.Kw m w z ps)) fun v σ'=>WO O r (put d v e) σ' Q:=dV rfl
@[simp,simp ↓] theorem ayy{ag:Bool}{sz:Nat}{a:bL}:WO O (⟨d,none,n,.ld ag sz a⟩::r) e σ Q=WD (LV ag sz (EV σ (bf e a))) fun v=>WO O r (put d v e) σ Q:=by
 rw[dV rfl];refine nC ?_;simp only[bM];cases EV σ (bf e a)with
 |none=>rfl
 |some cs =>
  simp only[LV];split
  ·cases ag
   ·cases cs<;>rfl
   ·rfl
  ·rfl
theorem PW{σ:SK}{l i off:Nat}:RV σ (.ref l i 0 off)=EV σ (.ref l i 0 off):=rfl
@[simp,simp ↓] theorem axB{ag:Bool}{sz:Nat}{a:bL}:WO O (⟨d,none,n,.RR ag sz a⟩::r) e σ Q=WD (LV ag sz (RV σ (bf e a))) fun v=>WO O r (put d v e) σ Q:=by
 rw[dV rfl];refine nC ?_;simp only[bM];cases RV σ (bf e a)with
 |none=>rfl
 |some cs =>
  simp only[LV];split
  ·cases ag
   ·cases cs<;>rfl
   ·rfl
  ·rfl
@[simp,simp ↓] theorem axC{ag:Bool}{sz:Nat}{a:bL}:WO O (⟨d,none,n,.RS ag sz a⟩::r) e σ Q=WD (LV ag sz (S0 (bf e a))) fun v=>WO O r (put d v e) σ Q:=by
 rw[dV rfl];refine nC ?_;simp only[bM];cases bf e a with
 |bF cs =>
  simp only[S0,LV];split
  ·cases ag
   ·cases cs<;>rfl
   ·rfl
  ·rfl
 |_=>rfl
@[simp,simp ↓] theorem axA{ps neg:Bool}{x:bL}:WO O (⟨d,none,n,.RQ ps neg x⟩::r) e σ Q=WD (HT ps (bf e x)) fun b=>WO O r (put d (.bool (if neg then !b else b)) e) σ Q:=by
 rw[dV rfl];simp only[bM];cases HT ps (bf e x)<;>simp
@[simp,simp ↓] theorem axH{x:bL}:WO O (⟨d,none,n,.mo x⟩::r) e σ Q=WD (au8 (bf e x)) fun v=>WO O r (put d v e) σ Q:=by
 rw[dV rfl];refine nC ?_;simp only[bM];cases bf e x<;>rfl
@[simp,simp ↓] theorem ayE{nb:List (Nat×Nat)}{sz:Nat}{a x:bL}:WO O (⟨d,none,n,.st nb sz a x⟩::r) e σ Q=WV (bM e σ (.st nb sz a x)) fun v σ'=>WO O r (put d v e) σ' Q:=dV rfl
@[simp,simp ↓] theorem axD{v:Nat}{ag:Bool}{sz a:Nat}:WO O (⟨d,none,n,.RT v ag sz a⟩::r) e σ Q=WD (adK e v ag sz a) fun v=>WO O r (put d v e) σ Q:=by
 rw[dV rfl];refine nC ?_;simp only[bM,adK];cases rM e v a with
 |none=>rfl
 |some x =>
  obtain⟨s,cs,off⟩:=x;simp only[LV,aS];split
  ·cases ag
   ·cases cs.drop off<;>rfl
   ·rfl
  ·rfl
@[simp,simp ↓] theorem axq{o:BinOp}{x y:bL}:WO O (⟨d,none,n,.bin o x y⟩::r) e σ Q=WD (vl o (bf e x) (bf e y)) fun v=>WO O r (put d v e) σ Q:=by
 rw[dV rfl];simp only[bM];cases vl o (bf e x) (bf e y)<;>simp
@[simp,simp ↓] theorem axw{ag:Bool}{ks:List (Option IntKind)}{neg:Bool}{x y:bL}:WO O (⟨d,none,n,.eqv ag ks neg x y⟩::r) e σ Q=WD (amW ag ks neg (bf e x) (bf e y)) fun v=>WO O r (put d v e) σ Q:=by
 rw[dV rfl];refine nC ?_;simp only[bM,amW];cases(bf e x).row ag<;>cases(bf e y).row ag<;>simp[Option.map_map,Function.comp_def]
@[simp,simp ↓] theorem ayF{o:UnOp}{x:bL}:WO O (⟨d,none,n,.un o x⟩::r) e σ Q=WD (unD o (bf e x)) fun v=>WO O r (put d v e) σ Q:=by
 rw[dV rfl];refine nC ?_;simp only[bM];cases o<;>cases bf e x<;>rfl
@[simp,simp ↓] theorem axv{k:IntKind}{x:bL}:WO O (⟨d,none,n,.KF k x⟩::r) e σ Q=WD (amP k (bf e x)) fun v=>WO O r (put d v e) σ Q:=by
 rw[dV rfl];simp only[bM];cases bf e x<;>simp[amP]
@[simp,simp ↓] theorem axJ{p:Pu}{xs:List bL}:WO O (⟨d,none,n,.ri p xs⟩::r) e σ Q=WD (sF p (xs.map (bf e))) fun v=>WO O r (put d v e) σ Q:=by
 rw[dV rfl];simp only[bM];cases sF p (xs.map (bf e))<;>simp
@[simp,simp ↓] theorem ayz{p:Me}{xs:List bL}:WO O (⟨d,none,n,.me p xs⟩::r) e σ Q=WV (meD σ p (xs.map (bf e))) fun v σ'=>WO O r (put d v e) σ' Q:=dV rfl
@[simp,simp ↓] theorem ayB{p:Mo}{xs:List bL}:WO O (⟨d,none,n,.mp p xs⟩::r) e σ Q=WV (AE σ p (xs.map (bf e))) fun v σ'=>WO O r (put d v e) σ' Q:=dV rfl
@[simp,simp ↓] theorem axF{t:Nat}{x:bL}:WO O (⟨d,none,n,.mki t x⟩::r) e σ Q=WO O r (put d (.tW t (bf e x)) e) σ Q:=by rw[dV rfl];simp[bM]
@[simp,simp ↓] theorem axM{t:Nat}{z:Option D}{x:bL}:WO O (⟨d,none,n,.tas t z x⟩::r) e σ Q=WD (Ni t z (bf e x)) fun v=>WO O r (put d v e) σ Q:=by
 rw[dV rfl];simp only[bM];cases Ni t z (bf e x)<;>simp
@[simp,simp ↓] theorem axz{neg:Bool}{x:bL}:WO O (⟨d,none,n,.isi neg x⟩::r) e σ Q=WD (adC (bf e x)) fun b=>WO O r (put d (.bool (if neg then !b else b)) e) σ Q:=by
 rw[dV rfl];simp only[bM];cases adC (bf e x)<;>simp
@[simp] theorem ar5:adC .o6=some true:=aD rfl
@[simp] theorem auZ{t:Nat}{d:D}:adC (.tW t d)=some false:=aD rfl
@[simp] theorem avZ{t t':Nat}{z d:D}:Ni t (some z) (.tW t' d)=some (if t'=t then .dG [d,.bool true]else .dG [z,.bool false]):=aD rfl
@[simp,simp ↓] theorem axE{f:Nat}{xs ys:List bL}:WO O (⟨d,none,n,.xT f xs ys⟩::r) e σ Q=WO O r (put d (.fn f (xs.map (bf e)) (ys.map (bf e))) e) σ Q:=by rw[dV rfl];simp[bM]
@[simp,simp ↓] theorem axG{w b:Nat}{z:List D}{l c:bL}:WO O (⟨d,none,n,.mks w b z l c⟩::r) e σ Q=WV (bM e σ (.mks w b z l c)) fun v σ'=>WO O r (put d v e) σ' Q:=dV rfl
@[simp,simp ↓] theorem axK{w:Nat}{x:bL}{lo hi mx:Option bL}:WO O (⟨d,none,n,.JV w x lo hi mx⟩::r) e σ Q=WD (agn w (bf e x) e lo hi mx) fun v=>WO O r (put d v e) σ Q:=by
 rw[dV rfl];refine nC ?_;simp only[bM,agn];cases bf e x<;>first | rfl | (simp only[];split<;>simp[Option.map_map,Function.comp_def]) | simp[Option.map_map,Function.comp_def]
@[simp,simp ↓] theorem aww{off m:Nat}:WO O (⟨d,none,n,.HQ off (.t m)⟩::r) e σ Q=WD (KQ m off (get e m)) fun v=>WO O r (put d v e) σ Q:=by
 rw[dV rfl];refine nC ?_;simp only[bM];cases get e m<;>rfl
@[simp,simp ↓] theorem awx{l w m:Nat}{i:bL}:WO O (⟨d,none,n,.Bc l w (.t m) i⟩::r) e σ Q=WD (PA m l w (get e m) (bf e i)) fun v=>WO O r (put d v e) σ Q:=by
 rw[dV rfl];refine nC ?_;simp only[bM,PA];cases DT (bf e i)with
 |none=>rfl
 |some k=>simp only[];split<;>cases get e m<;>rfl
@[simp,simp ↓] theorem awy{w:Nat}{x i:bL}:WO O (⟨d,none,n,.dP w x i⟩::r) e σ Q=WD (PB w (bf e x) (bf e i)) fun v=>WO O r (put d v e) σ Q:=by
 rw[dV rfl];refine nC ?_;simp only[bM,PB];cases DT (bf e i)with
 |none=>cases bf e x<;>rfl
 |some k=>cases bf e x<;>first | rfl | (simp only[];split<;>rfl)
@[simp,simp ↓] theorem awz{ag:Bool}{l w:Nat}{x i:bL}:WO O (⟨d,none,n,.Jt ag l w x i⟩::r) e σ Q=WD (adv ag l w (bf e x) (bf e i)) fun v=>WO O r (put d v e) σ Q:=by
 rw[dV rfl];refine nC ?_;simp only[bM,adv];cases DT (bf e i)with
 |none=>cases bf e x<;>rfl
 |some k=>cases bf e x<;>first | rfl | (simp only[];split<;>cases ag<;>simp)
@[simp,simp ↓] theorem awA{x:bL}:WO O (⟨d,none,n,.HU x⟩::r) e σ Q=WD (adL (bf e x)) fun v=>WO O r (put d v e) σ Q:=by
 rw[dV rfl];refine nC ?_;simp only[bM];cases bf e x<;>rfl
@[simp,simp ↓] theorem ayA{x y:bL}:WO O (⟨d,none,n,.mn x y⟩::r) e σ Q=WD (mnD (bf e x) (bf e y)) fun v=>WO O r (put d v e) σ Q:=by
 rw[dV rfl];refine nC ?_;simp only[bM];cases bf e x<;>cases bf e y<;>rfl
@[simp,simp ↓] theorem ayD{x y:bL}:WO O (⟨d,none,n,.mx x y⟩::r) e σ Q=WD (mxD (bf e x) (bf e y)) fun v=>WO O r (put d v e) σ Q:=by
 rw[dV rfl];refine nC ?_;simp only[bM];cases bf e x<;>cases bf e y<;>rfl
@[simp,simp ↓] theorem axo{os:List Nat}{w b:Nat}{s x:bL}:WO O (⟨d,none,n,.QC os w b s x⟩::r) e σ Q=WV (bM e σ (.QC os w b s x)) fun v σ'=>WO O r (put d v e) σ' Q:=dV rfl
@[simp,simp ↓] theorem axp{w b:Nat}{s x:bL}:WO O (⟨d,none,n,.app w b s x⟩::r) e σ Q=WV (bM e σ (.app w b s x)) fun v σ'=>WO O r (put d v e) σ' Q:=dV rfl
@[simp,simp ↓] theorem axx{x:bL}{i:Nat}:WO O (⟨d,none,n,.ext x i⟩::r) e σ Q=WD (ati (bf e x) i) fun v=>WO O r (put d v e) σ Q:=by
 rw[dV rfl];refine nC ?_;simp only[bM];cases bf e x<;>rfl
@[simp,simp ↓] theorem awv{kp:Bool}{f:bL}{args:List bL}:WO O (⟨d,none,n,.call kp f args⟩::r) e σ Q =
  WV (o9 O kp (bf e f) (args.map (bf e)) σ) fun v σ'=>(n=true→σ'=σ)∧WO O r (put d v e) σ' Q:=by
 simp only[WO,mm,vG,WV,eq_iff_iff];cases hc:o9 O kp (bf e f) (args.map (bf e)) σ with
 |none=>simp
 |some y =>
  obtain⟨v,σ1⟩:=y;by_cases hn:n=true→σ1=σ
  ·simp only[if_pos hn,Option.bind_some,ae,ak];exact⟨fun h=>⟨v,σ1,⟨rfl,rfl⟩,hn,h⟩,fun⟨_,_,⟨h1,h2⟩,_,h⟩=>by subst h1 h2;exact h⟩
  ·simp only[if_neg hn,Option.bind_none,reduceCtorEq,false_and,exists_false,ae,ak,false_iff];rintro⟨_,_,⟨h1,h2⟩,h,_⟩;subst h1 h2;exact hn h
@[simp,simp ↓] theorem awr{nb:List (Nat×Nat)}{cs:List D}:WO O (⟨d,none,n,.dY nb cs⟩::r) e σ Q=WD d fun v=>WD (kP nb cs σ) fun y=>WO O r ((v,.own (ue e v) y.1)::e) y.2 Q:=by
 cases d with
 |none=>simp[WO,mm,vG]
 |some v=>cases h:kP nb cs σ with
  |none=>simp[WO,mm,vG,h]
  |some y=>obtain⟨a,b⟩:=y;simp only[WO,mm,vG,h,Option.bind_some,DB]
@[simp,simp ↓] theorem awu{x:bL}:WO O (⟨d,none,n,.Ey x⟩::r) e σ Q=WD d fun v=>WD (bf e x).cells fun cs=>WO O r ((v,.own (ue e v) cs)::e) σ Q:=by
 cases d with
 |none=>simp[WO,mm,vG]
 |some v=>cases h:(bf e x).cells with
  |none=>simp[WO,mm,vG,h]
  |some y=>simp only[WO,mm,vG,h,Option.bind_some,DB]
def arJ(e:Env)(σ:SK)(v:Nat)(nb:List (Nat×Nat))(sz a:Nat)(x:bL):Option (D×SK) :=
 match rM e v a,(bf e x).cells with
 |some (s,cs,off),some p =>
  if p.length=sz∧off+sz≤cs.length then
   match kP nb p σ with
   |some (p',σ')=>some (.own s (cs.take off++p'++cs.drop (off+sz)),σ')
   |none=>none
  else none
 |_,_=>none
@[simp,simp ↓] theorem axL{v:Nat}{nb:List (Nat×Nat)}{sz a:Nat}{x:bL}:WO O (⟨d,none,n,.FV v nb sz a x⟩::r) e σ Q =
  WV (arJ e σ v nb sz a x) fun y σ'=>WO O r ((v,y)::e) σ' Q:=by
 simp only[WO,mm,vG,arJ];cases h1:rM e v a with
 |none=>simp
 |some p =>
  obtain⟨s,cs,off⟩:=p;cases h2:(bf e x).cells with
  |none=>simp
  |some p =>
   dsimp only;split
   ·cases h3:kP nb p σ with
    |none=>simp
    |some y=>obtain⟨a,b⟩:=y;simp[WO]
   ·simp
end ops
section code
variable {e:Env} {σ:SK} {Q:Exit→Env→SK→Prop}
@[simp,simp ↓] theorem axj:WC O .dQ e σ Q=Q .normal e σ:=by
 simp only[WC,aY,ae,ak,eq_iff_iff];exact⟨fun⟨_,_,_,⟨h1,h2,h3⟩,h⟩=>by subst h1 h2 h3;exact h,fun h=>⟨_,_,_,⟨rfl,rfl,rfl⟩,h⟩⟩
@[simp,simp ↓] theorem axh{vs:List Nat}:WC O (.cz vs) e σ Q=Q .normal (uL vs e σ).1 (uL vs e σ).2:=by
 simp only[WC,aY,ae,ak,eq_iff_iff];exact⟨fun⟨_,_,_,⟨h1,h2,h3⟩,h⟩=>by subst h1 h2 h3;exact h,fun h=>⟨_,_,_,⟨rfl,rfl,rfl⟩,h⟩⟩
@[simp,simp ↓] theorem awp{i:Nat}:WC O (.exit i) e σ Q=Q (.exit i) e σ:=by
 simp only[WC,aY,ae,ak,eq_iff_iff];exact⟨fun⟨_,_,_,⟨h1,h2,h3⟩,h⟩=>by subst h1 h2 h3;exact h,fun h=>⟨_,_,_,⟨rfl,rfl,rfl⟩,h⟩⟩
@[simp,simp ↓] theorem axl:WC O .ret e σ Q=Q .ret e σ:=by
 simp only[WC,aY,ae,ak,eq_iff_iff];exact⟨fun⟨_,_,_,⟨h1,h2,h3⟩,h⟩=>by subst h1 h2 h3;exact h,fun h=>⟨_,_,_,⟨rfl,rfl,rfl⟩,h⟩⟩
@[simp,simp ↓] theorem axk{live:List Nat}{ops:List Op}:WC O (.cg live ops) e σ Q=WO O ops e σ fun e' σ'=>Q .normal (restrict live e') σ':=by
 simp only[WC,aY,WO,ad,ak,eq_iff_iff];constructor
 ·rintro⟨x,e',σ',⟨⟨e1,σ1⟩,h1,rfl,rfl,rfl⟩,h⟩;exact⟨e1,σ1,h1,h⟩
 ·rintro⟨e',σ',h1,h⟩;exact⟨_,_,_,⟨⟨e',σ'⟩,h1,rfl,rfl,rfl⟩,h⟩
def LN(O:bN)(b:cH)(Q:Exit→Env→SK→Prop)(_m:Mark b:=.mk)(_m':Mark Q:=.mk):Exit→Env→SK→Prop
 |.normal,e,σ=>WC O b e σ Q
 |.exit i,e,σ=>Q (.exit i) e σ
 |.ret,e,σ=>Q .ret e σ
 |.fQ d,e,σ=>Q (.fQ d) e σ
@[simp,simp ↓] theorem asA{b:cH}{d:D}:LN O b Q .mk .mk (.fQ d) e σ=Q (.fQ d) e σ:=aD rfl
@[simp,simp ↓] theorem agD{b:cH}:LN O b Q .mk .mk .normal e σ=WC O b e σ Q:=aD rfl
@[simp,simp ↓] theorem arM{b:cH}{i:Nat}:LN O b Q .mk .mk (.exit i) e σ=Q (.exit i) e σ:=aD rfl
@[simp,simp ↓] theorem asz{b:cH}:LN O b Q .mk .mk .ret e σ=Q .ret e σ:=aD rfl
@[simp,simp ↓] theorem axm{a b:cH}:WC O (.seq a b) e σ Q=WC O a e σ (LN O b Q .mk .mk):=by
 simp only[WC,aY,ah,eq_iff_iff];constructor
 ·rintro⟨x,e',σ',⟨⟨x1,e1,σ1⟩,h1,h2⟩,h⟩;refine⟨x1,e1,σ1,h1,?_⟩;cases x1 with
  |normal=>exact⟨x,e',σ',h2,h⟩
  |exit i=>cases h2;exact h
  |ret=>cases h2;exact h
  |fQ d=>cases h2;exact h
 ·rintro⟨x1,e1,σ1,h1,h⟩;cases x1 with
  |normal=>obtain⟨x,e',σ',h2,h3⟩:=h;exact⟨x,e',σ',⟨_,h1,h2⟩,h3⟩
  |exit i=>exact⟨_,_,_,⟨_,h1,rfl⟩,h⟩
  |ret=>exact⟨_,_,_,⟨_,h1,rfl⟩,h⟩
  |fQ d=>exact⟨_,_,_,⟨_,h1,rfl⟩,h⟩
@[simp,simp ↓] theorem axi{c:bL}{a b:cH}:WC O (.ite c a b) e σ Q=WD (Ku (bf e c)) fun t=>if t=true then WC O a e σ Q else WC O b e σ Q:=by
 simp only[WC,aY];cases bf e c<;>simp[Ku];rename_i t;cases t<;>simp
def MV(id:Nat)(Q:Exit→Env→SK→Prop)(_m:Mark Q:=.mk):Exit→Env→SK→Prop
 |.normal,e,σ=>Q .normal e σ
 |.exit i,e,σ=>if i=id then Q .normal e σ else Q (.exit i) e σ
 |.ret,e,σ=>Q .ret e σ
 |.fQ d,e,σ=>Q (.fQ d) e σ
@[simp,simp ↓] theorem avd{id:Nat}{d:D}:MV id Q .mk (.fQ d) e σ=Q (.fQ d) e σ:=aD rfl
@[simp,simp ↓] theorem alF{id:Nat}:MV id Q .mk .normal e σ=Q .normal e σ:=aD rfl
@[simp,simp ↓] theorem ash{id i:Nat}:MV id Q .mk (.exit i) e σ=if i=id then Q .normal e σ else Q (.exit i) e σ:=aD rfl
@[simp,simp ↓] theorem avc{id:Nat}:MV id Q .mk .ret e σ=Q .ret e σ:=aD rfl
@[simp,simp ↓] theorem axg{id:Nat}{a:cH}:WC O (.bO id a) e σ Q=WC O a e σ (MV id Q .mk):=by
 simp only[WC,aY,ad,eq_iff_iff];constructor
 ·rintro⟨x,e',σ',⟨⟨x1,e1,σ1⟩,h1,h2⟩,h⟩;refine⟨x1,e1,σ1,h1,?_⟩;cases x1 with
  |normal=>cases h2;exact h
  |exit i =>
   simp only[MV];dsimp only at h2;split at h2<;>cases h2
   ·rw[if_pos (by assumption)];exact h
   ·rw[if_neg (by assumption)];exact h
  |ret=>cases h2;exact h
  |fQ d=>cases h2;exact h
 ·rintro⟨x1,e1,σ1,h1,h⟩;cases x1 with
  |normal=>exact⟨_,_,_,⟨_,h1,rfl⟩,h⟩
  |exit i =>
   simp only[MV]at h;split at h
   ·exact⟨_,_,_,⟨_,h1,by dsimp only;rw[if_pos (by assumption)]⟩,h⟩
   ·exact⟨_,_,_,⟨_,h1,by dsimp only;rw[if_neg (by assumption)]⟩,h⟩
  |ret=>exact⟨_,_,_,⟨_,h1,rfl⟩,h⟩
  |fQ d=>exact⟨_,_,_,⟨_,h1,rfl⟩,h⟩
theorem QJ(d:D):d.calm.calm=d.calm:=by cases d<;>rfl
theorem HY{live:List Nat}{e:Env}{t:Nat}:get (restrict live e) t=if t∈live then(get e t).calm else .undef:=by
 induction live with
 |nil=>simp[restrict,get]
 |cons a l ih =>
  simp only[restrict,aP,get,aW];by_cases h:a=t
  ·subst h;simp
  ·have h':¬t=a:=fun x=>h x.symm
   simp only[if_neg h,h',false_or];exact ih
theorem xV{live:List Nat}{e:Env}:restrict live (restrict live e)=restrict live e:=by
 simp only[restrict,List.map_inj_left,ak,true_and];intro t ht;have:=HY (live:=live) (e:=e) (t:=t);simp only[restrict]at this;rw[this,if_pos ht,QJ]
theorem vW{live:List Nat}{bw:Bool}{c:cH}:dp T O (.loop live bw c (restrict live e) σ)=dp T O (.loop live bw c e σ):=by
 simp only[dp,xV]
theorem xP{live:List Nat}{bw:Bool}{c:cH}{r:R}(h:lim T (.loop live bw c (restrict live e) σ)=some r):lim T (.loop live bw c e σ)=some r:=by
 obtain⟨n,h⟩:=dA.1 h;cases n with
 |zero=>cases h
 |succ n =>
  rw[it,vW]at h;exact dA.2 ⟨n+1,h⟩
theorem Db{live:List Nat}{bw:Bool}{c:cH}{r:R}(h:lim T (.loop live bw c e σ)=some r):lim T (.loop live bw c (restrict live e) σ)=some r:=by
 obtain⟨n,h⟩:=dA.1 h;cases n with
 |zero=>cases h
 |succ n =>
  rw[it,← vW]at h;exact dA.2 ⟨n+1,h⟩
theorem MA{r:Option R}{x:Exit}{e:Env}{σ:SK}(h:R.QM r=some (x,e,σ)):r=some (.Cv x e σ):=by
 unfold R.QM at h;split at h
 ·cases h;rfl
 ·cases h
@[simp,simp ↓] theorem awq{live:List Nat}{bw:Bool}{c:cH}:WC (lim T) (.loop live bw c) e σ Q=WL T live bw c (restrict live e) σ Q:=by
 simp only[WC,aY,WL,eq_iff_iff];constructor
 ·rintro⟨x,e',σ',h1,h⟩;cases hl:lim T (.loop live bw c e σ)with
  |none=>rw[hl]at h1;cases h1
  |some r =>
   rw[hl]at h1;cases r<;>cases h1;exact⟨_,_,_,Db hl,h⟩
 ·rintro⟨x,e',σ',h1,h⟩;exact⟨x,e',σ',by rw[xP h1];rfl,h⟩
def Lq(T:yo)(live:List Nat)(c:cH)(Q:Exit→Env→SK→Prop)(_m:Mark c:=.mk)(_m':Mark Q:=.mk):Exit→Env→SK→Prop
 |.normal,e,σ=>WL T live false c (restrict live e) σ Q
 |.exit i,e,σ=>Q (.exit i) e σ
 |.ret,e,σ=>Q .ret e σ
 |.fQ d,e,σ=>Q (.fQ d) e σ
@[simp,simp ↓] theorem ase{live:List Nat}{c:cH}{d:D}:Lq T live c Q .mk .mk (.fQ d) e σ=Q (.fQ d) e σ:=aD rfl
@[simp,simp ↓] theorem af5{live:List Nat}{c:cH}:Lq T live c Q .mk .mk .normal e σ=WL T live false c (restrict live e) σ Q:=aD rfl
@[simp,simp ↓] theorem aqG{live:List Nat}{c:cH}{i:Nat}:Lq T live c Q .mk .mk (.exit i) e σ=Q (.exit i) e σ:=aD rfl
@[simp,simp ↓] theorem asd{live:List Nat}{c:cH}:Lq T live c Q .mk .mk .ret e σ=Q .ret e σ:=aD rfl
theorem aN{live:List Nat}{c c':cH}(hc:c=c')(h:WC (lim T) c' (restrict live e) σ (Lq T live c Q .mk .mk)):WL T live false c e σ Q:=by
 rw[← hc]at h;obtain⟨x,e1,σ1,h1,h2⟩:=h;cases x with
 |normal =>
  obtain⟨x,e',σ',h3,h4⟩:=h2;exact⟨x,e',σ',gW (by simp[dp,h1,xP h3]),h4⟩
 |exit i=>exact⟨_,_,_,gW (by simp[dp,h1]),h2⟩
 |ret=>exact⟨_,_,_,gW (by simp[dp,h1]),h2⟩
 |fQ d=>exact⟨_,_,_,gW (by simp[dp,h1]),h2⟩
def QU(σ:SK)(res:List Dn)(d:D)(x:Exit)(e:Env)(σ1:SK):Prop :=
 (∀i,x ≠ .exit i)∧(∀d,x ≠ .fQ d)∧∃ds,y9 e σ1 res=some ds∧∃s,cz (σ.length-1) deep (tX ds) σ1=(d,s::σ)
@[simp,simp ↓] theorem agU{σ1:SK}{res:List Dn}{d:D}:QU σ res d .normal e σ1=∃ds,y9 e σ1 res=some ds∧∃s,cz (σ.length-1) deep (tX ds) σ1=(d,s::σ):=by simp[QU]
@[simp,simp ↓] theorem ate{σ1:SK}{res:List Dn}{d:D}:QU σ res d .ret e σ1=∃ds,y9 e σ1 res=some ds∧∃s,cz (σ.length-1) deep (tX ds) σ1=(d,s::σ):=by simp[QU]
theorem az{f:Nat}{fn:Fn}{args:List D}{σ:SK}{d:D}{np:Nat}{res:List Dn}{body:cH}(hT:T f=some fn)(hf:fn=⟨np,res,body⟩)(hl:args.length=np)
  (h:WC (lim T) body (nj 0 args) ([]::σ) (QU σ res d)):
  lim T (.call false f args σ)=some (.val d σ):=by
 subst hf;obtain⟨x,e1,σ1,h1,h2,h2',ds,h3,s,h4⟩:=h;refine gW ?_;simp only[dp,hT,if_pos hl,aw,if_false,h1];cases x with
 |exit i=>exact absurd rfl (h2 i)
 |fQ d=>exact absurd rfl (h2' d)
 |normal=>simp[h3,h4]
 |ret=>simp[h3,h4]
def amT(σ:SK)(d:D)(x:Exit)(e:Env)(σ1:SK):Prop:=x=.fQ d∧d.clean=true∧∃s,σ1=s::σ
@[simp,simp ↓] theorem atg{σ1:SK}{d d':D}:amT σ d (.fQ d') e σ1=(d'=d∧d.clean=true∧∃s,σ1=s::σ):=by simp[amT]
theorem ef{f:Nat}{fn:Fn}{args:List D}{σ:SK}{d:D}{np:Nat}{res:List Dn}{body:cH}(hT:T f=some fn)(hf:fn=⟨np,res,body⟩)(hl:args.length=np)
  (h:WC (lim T) body (nj 0 args) ([]::σ) (amT σ d)):
  lim T (.call false f args σ)=some (.fQ d σ):=by
 subst hf;obtain⟨x,e1,σ1,h1,rfl,hc,s,rfl⟩:=h;refine gW ?_;simp only[dp,hT,if_pos hl,aw,if_false,h1];simp[Nj,hc]
def WR(r:Option R)(Qn Qt:D→SK→Prop)(_m:Mark Qn:=.mk)(_m':Mark Qt:=.mk):Prop:=(∃d σ',r=some (.val d σ')∧Qn d σ')∨∃d σ',r=some (.fQ d σ')∧Qt d σ'
@[simp,simp ↓] theorem amD{d:D}{σ':SK}{Qn Qt:D→SK→Prop}:WR (some (.val d σ')) Qn Qt=Qn d σ':=by
 simp only[WR,ae,R.val.injEq,reduceCtorEq,false_and,exists_false,or_false,eq_iff_iff];exact⟨fun⟨_,_,⟨h1,h2⟩,h⟩=>by subst h1 h2;exact h,fun h=>⟨_,_,⟨rfl,rfl⟩,h⟩⟩
@[simp,simp ↓] theorem amC{d:D}{σ':SK}{Qn Qt:D→SK→Prop}:WR (some (.fQ d σ')) Qn Qt=Qt d σ':=by
 simp only[WR,ae,R.fQ.injEq,reduceCtorEq,false_and,exists_false,false_or,eq_iff_iff];exact⟨fun⟨_,_,⟨h1,h2⟩,h⟩=>by subst h1 h2;exact h,fun h=>⟨_,_,⟨rfl,rfl⟩,h⟩⟩
def aqO:D→Option D
 |.tW t d=>if d.clean then some (.tW t d)else none
 |_=>none
@[simp] theorem Lr{t:Nat}{d:D}:aqO (.tW t d)=if d.clean then some (.tW t d)else none:=aD rfl
@[simp] theorem as9{O:bN}{f:Nat}{first cap args:List D}{σ:SK}:Ah O (.fn f first cap) args σ=O (.call false f (first++args++cap) σ):=aD rfl
@[simp,simp ↓] theorem afv{live:List Nat}{pre post:List Op}{dst:Option Nat}{n:Bool}{f:bL}{args:List bL}:WC O (.iG live pre ⟨dst,none,n,.call false f args⟩ post) e σ Q =
  WO O pre e σ fun e1 σ1=>WR (Ah O (bf e1 f) (args.map (bf e1)) σ1) (fun d σ2=>WO O post (put dst d e1) σ2 fun e' σ'=>Q .normal (restrict live e') σ') (fun d σ2=>Q (.fQ d) e1 σ2):=by
 simp only[WC,WO,aY,FM,ah,eq_iff_iff];constructor
 ·rintro⟨x,e',σ',⟨⟨e1,σ1⟩,h1,h2⟩,h⟩;refine⟨e1,σ1,h1,?_⟩;dsimp only at h2;cases hc:Ah O (bf e1 f) (args.map (bf e1)) σ1 with
  |none=>rw[hc]at h2;simp[uq]at h2
  |some r =>
   rw[hc]at h2;cases r with
   |Cv=>simp[uq]at h2
   |fQ d σ2=>simp only[uq,ae,ak]at h2;obtain⟨rfl,rfl,rfl⟩:=h2;rw[amC];exact h
   |val d σ2 =>
    simp only[uq,ad]at h2;obtain⟨⟨e3,σ3⟩,h3,h4⟩:=h2;cases h4;rw[amD];exact⟨e3,σ3,h3,h⟩
 ·rintro⟨e1,σ1,h1,h⟩;rcases h with⟨d,σ2,h2,e3,σ3,h3,h4⟩ | ⟨d,σ2,h2,h4⟩
  ·exact⟨.normal,_,σ3,⟨(e1,σ1),h1,by simp only[h2,uq,h3,aS]⟩,h4⟩
  ·exact⟨.fQ d,e1,σ2,⟨(e1,σ1),h1,by simp only[h2,uq]⟩,h4⟩
@[simp,simp ↓] theorem agR{live:List Nat}{pre post:List Op}{dst:Option Nat}{n:Bool}{x:bL}:WC O (.iG live pre ⟨dst,none,n,.LW x⟩ post) e σ Q =
  WO O pre e σ fun e1 σ1=>WD (aqO (bf e1 x)) fun d=>Q (.fQ d) e1 σ1:=by
 simp only[WC,WO,aY,FM,ah,eq_iff_iff];constructor
 ·rintro⟨x',e',σ',⟨⟨e1,σ1⟩,h1,h2⟩,h⟩;refine⟨e1,σ1,h1,?_⟩;dsimp only at h2;cases hx:bf e1 x<;>rw[hx]at h2<;>try (cases h2;done)
  dsimp only at h2;split at h2
  ·rename_i hc;cases h2;simp only[Lr,hc,if_true,DB];exact h
  ·cases h2
 ·rintro⟨e1,σ1,h1,d,h2,h⟩;refine⟨.fQ d,e1,σ1,⟨(e1,σ1),h1,?_⟩,h⟩;dsimp only;cases hx:bf e1 x<;>rw[hx]at h2<;>try (cases h2;done)
  simp only[Lr]at h2;split at h2
  ·rename_i hc;cases h2;simp[hc]
  ·cases h2
def WM(T:yo)(live:List Nat)(it:bL)(nx ok b:Nat)(c rest:cH)(e:Env)(σ:SK)(Q:Exit→Env→SK→Prop)(_m:Mark c:=.mk)(_m':Mark rest:=.mk)(_m'':Mark Q:=.mk):Prop:=∃x e' σ',lim T (.iS live it nx ok b c rest e σ)=some (.Cv x e' σ')∧Q x e' σ'
theorem WM.mono{live:List Nat}{it:bL}{nx ok b:Nat}{c rest:cH}{Q':Exit→Env→SK→Prop}(h:WM T live it nx ok b c rest e σ Q)(hq:∀x e σ,Q x e σ→Q' x e σ):WM T live it nx ok b c rest e σ Q' :=
 let ⟨x,e',σ',h1,h2⟩:=h;⟨x,e',σ',h1,hq _ _ _ h2⟩
theorem vE{live:List Nat}{it:bL}{nx ok b:Nat}{c rest:cH}:dp T O (.iS live it nx ok b c rest (restrict live e) σ)=dp T O (.iS live it nx ok b c rest e σ):=by
 simp only[dp,xV]
theorem sT{live:List Nat}{it:bL}{nx ok b:Nat}{c rest:cH}{r:R}:lim T (.iS live it nx ok b c rest (restrict live e) σ)=some r↔lim T (.iS live it nx ok b c rest e σ)=some r:=by
 constructor<;>intro h<;>obtain⟨n,h⟩:=dA.1 h<;>cases n<;>first | (cases h;done) | skip
 ·rw[Abs.it,vE]at h;exact dA.2 ⟨_+1,h⟩
 ·rw[Abs.it,← vE]at h;exact dA.2 ⟨_+1,h⟩
@[simp,simp ↓] theorem asP{live:List Nat}{it:bL}{nx ok b:Nat}{c rest:cH}:WC (lim T) (.iS live it nx ok b c rest) e σ Q=WM T live it nx ok b c rest (restrict live e) σ Q:=by
 simp only[WC,aY,WM,eq_iff_iff];constructor
 ·rintro⟨x,e',σ',h1,h⟩;exact⟨_,_,_,sT.2 (MA h1),h⟩
 ·rintro⟨x,e',σ',h1,h⟩;exact⟨x,e',σ',by rw[sT.1 h1];rfl,h⟩
def IH(T:yo)(live:List Nat)(it:bL)(l i nx ok b:Nat)(c rest:cH)(r:R)(_m:Mark c:=.mk)(_m':Mark rest:=.mk):Exit→Env→SK→Prop
 |.normal,e,σ=>lim T (.iS live it nx ok b c rest (restrict live e) σ)=some r
 |.exit j,e,σ=>if j=b then WC (lim T) rest e (aV σ l i .dead) fun x e' σ'=>r=.Cv x e' σ' else r=.Cv (.exit j) e (aV σ l i .dead)
 |.ret,e,σ=>r=.Cv .ret e (aV σ l i .dead)
 |.fQ _,_,_=>False
@[simp,simp ↓] theorem af6{live:List Nat}{it:bL}{l i nx ok b:Nat}{c rest:cH}{r:R}:IH T live it l i nx ok b c rest r .mk .mk .normal e σ=(lim T (.iS live it nx ok b c rest (restrict live e) σ)=some r):=aD rfl
@[simp,simp ↓] theorem MS{live:List Nat}{it:bL}{l i nx ok b j:Nat}{c rest:cH}{r:R}:IH T live it l i nx ok b c rest r .mk .mk (.exit j) e σ=if j=b then WC (lim T) rest e (aV σ l i .dead) fun x e' σ'=>r=.Cv x e' σ' else r=.Cv (.exit j) e (aV σ l i .dead):=aD rfl
@[simp,simp ↓] theorem Rn{live:List Nat}{it:bL}{l i nx ok b:Nat}{c rest:cH}{r:R}:IH T live it l i nx ok b c rest r .mk .mk .ret e σ=(r=.Cv .ret e (aV σ l i .dead)):=aD rfl
theorem Jx{l i b:Nat}{rest:cH}{r:R}{x:Exit}{e1:Env}{σ1:SK}{live:List Nat}{it:bL}{nx ok:Nat}{c:cH}(hx:x ≠ .normal)(h:IH T live it l i nx ok b c rest r .mk .mk x e1 σ1):wZ (lim T) l i b rest (some (x,e1,σ1))=some r:=by
 cases x with
 |normal=>exact absurd rfl hx
 |fQ d=>exact h.elim
 |ret=>simp only[Rn]at h;subst h;rfl
 |exit j =>
  simp only[MS]at h;simp only[wZ];split at h
  ·rename_i hj;obtain⟨x',e',σ',h1,rfl⟩:=h;rw[if_pos hj,h1];rfl
  ·rename_i hj;subst h;rw[if_neg hj]
theorem adX{live:List Nat}{it:bL}{l i nx ok b:Nat}{c c' rest rest':cH}{r:R}{m:D}{n:Nat}{js:List D}{us:List Nat}(hcc:c=c')(hrr:rest=rest')(hit:bf (restrict live e) it=.mq l i)(hd:Fs σ l i=some (m,n,js,us))(hne:us≠[])
  (h:∀u∈us,WC (lim T) c' ((ok,.bool true)::(nx,.undef)::restrict live e) (aV σ l i (.cells 1 (m::.int .i64 (n:Nat)::.int .i64 (u:Nat)::js))) (IH T live it l i nx ok b c rest' r .mk .mk)):
  lim T (.iS live it nx ok b c rest e σ)=some r:=by
 subst hcc hrr;refine gW ?_;simp only[dp,hit,hd];have key:∀u∈us,Al (lim T) live it l i nx ok b c rest (aY (lim T) c ((ok,.bool true)::(nx,.undef)::restrict live e) (aV σ l i (.cells 1 (m::.int .i64 (n:Nat)::.int .i64 (u:Nat)::js))))=some r:=by
  intro u hu;obtain⟨x,e1,σ1,h1,h2⟩:=h u hu;rw[h1];cases x with
  |normal=>exact sT.1 h2
  |exit j=>exact Jx (x:=.exit j) (by simp) h2
  |ret=>exact Jx (x:=.ret) (by simp) h2
  |fQ d=>exact h2.elim
 cases us with
 |nil=>exact absurd rfl hne
 |cons u us=>exact Ig (by simp) key
theorem Rk{live:List Nat}{it:bL}{l i nx ok b:Nat}{c c' rest rest':cH}{r:R}{m:D}{n:Nat}{js:List D}(hcc:c=c')(hrr:rest=rest')(hit:bf (restrict live e) it=.mq l i)(hd:Fs σ l i=some (m,n,js,[]))
  (h:WC (lim T) c' ((ok,.bool false)::(nx,.undef)::restrict live e) σ fun x e1 σ1=>x ≠ .normal∧IH T live it l i nx ok b c rest' r .mk .mk x e1 σ1):
  lim T (.iS live it nx ok b c rest e σ)=some r:=by
 subst hcc hrr;refine gW ?_;simp only[dp,hit,hd];obtain⟨x,e1,σ1,h1,hx,h2⟩:=h;rw[h1];exact Jx hx h2
def arL:Exit→Option (Option D)
 |.normal=>some none
 |.ret=>some none
 |.fQ d=>some (some d)
 |.exit _=>none
@[simp] theorem av1:arL .ret=some none:=aD rfl
@[simp] theorem av2{d:D}:arL (.fQ d)=some (some d):=aD rfl
noncomputable def vH(T:yo)(fv:D)(args:List D)(th:Option D)(σ:SK):Option SK :=
 match qH (lim T) fv args th σ with
 |some (.val _ σ')=>some σ'
 |_=>none
theorem uG{f:Nat}{first cap args:List D}{th:Option D}{σ σ':SK}{d:D}(h:lim T (.xE f (first++args++cap) th σ)=some (.val d σ')):vH T (.fn f first cap) args th σ=some σ':=by
 simp only[vH,qH,h]
def AA(T:yo)(fv:D)(args:List D)(σ:SK)(res:List Dn)(d:D)(x:Exit)(e:Env)(σ1:SK):Prop :=
 WD (arL x) fun th=>WD (vH T fv args th σ1) fun σ2=>∃ds,y9 e σ2 res=some ds∧∃s,cz (σ.length-1) deep (tX ds) σ2=(d,s::σ)
def JZ(T:yo)(f:bL)(args:List bL)(q:cH)(σ:SK)(res:List Dn)(d:D)(x:Exit)(e:Env)(σ1:SK)(_m:Mark q:=.mk):Prop :=
 x=.normal∧WC (lim T) q e σ1 (AA T (bf e f) (args.map (bf e)) σ res d)
theorem Kz{f:Nat}{fn:Fn}{args:List D}{σ:SK}{d:D}{np:Nat}{res:List Dn}{body A q:cH}{fo:bL}{as:List bL}(hT:T f=some fn)(hf:fn=⟨np,res,body⟩)(hl:args.length=np)(hs:jz body=some (A,fo,as,q))
  (h:WC (lim T) A (nj 0 args) ([]::σ) (JZ T fo as q σ res d)):
  lim T (.call false f args σ)=some (.val d σ):=by
 subst hf;obtain⟨x,e1,σ1,h1,rfl,x2,e2,σ2,h2,th,h3,σ3,h4,ds,h5,s,h6⟩:=h;refine gW ?_;have hn:aY (lim T) body (nj 0 args) ([]::σ)=none:=xY hs h1;simp only[dp,hT,if_pos hl,aw,if_false,hn,hs,yN,h1,h2];have h4':∃dv,qH (lim T) (bf e1 fo) (as.map (bf e1)) th σ2=some (.val dv σ3):=by
  unfold vH at h4;split at h4
  ·rename_i h7;cases h4;exact⟨_,h7⟩
  ·cases h4
 obtain⟨dv,h4'⟩:=h4';cases x2 with
 |exit i=>cases h3
 |normal=>cases h3;simp only[yP,h4',uI,leave,h5,h6]
 |ret=>cases h3;simp only[yP,h4',uI,leave,h5,h6]
 |fQ d=>cases h3;simp only[yP,h4',uI,leave,h5,h6]
def amU(σ':SK)(res:List Dn)(x:Exit)(e:Env)(σ1:SK):Prop :=
 (∀i,x ≠ .exit i)∧(∀d,x ≠ .fQ d)∧y9 e σ1 res=some []∧∃s,σ1=s::σ'
@[simp,simp ↓] theorem agW{σ' σ1:SK}{res:List Dn}:amU σ' res .normal e σ1=(y9 e σ1 res=some []∧∃s,σ1=s::σ'):=by simp[amU]
theorem AV{f:Nat}{fn:Fn}{args:List D}{th:Option D}{σ σ':SK}{np:Nat}{res:List Dn}{body q:cH}{e0:Env}(hT:T f=some fn)(hf:fn=⟨np,res,body⟩)(hl:args.length=np)(hr:rT th args body=some (e0,q))
  (h:WC (lim T) q e0 ([]::σ) (amU σ' res)):lim T (.xE f args th σ)=some (.val (.dG []) σ'):=by
 subst hf;obtain⟨x,e1,σ1,h1,h2,h2',h3,s,rfl⟩:=h;refine gW ?_;simp only[dp,hT,if_pos hl,hr,h1];cases x with
 |exit i=>exact absurd rfl (h2 i)
 |fQ d=>exact absurd rfl (h2' d)
 |normal=>simp[h3]
 |ret=>simp[h3]
end code
@[simp] theorem auV{k t:Nat}{v:D}{r:Env}:get ((k,v)::r) t=if k=t then v else get r t:=aD rfl
@[simp] theorem avf{t:Nat}{v:D}{e:Env}:put (some t) v e=(t,v)::e:=aD rfl
@[simp] theorem ave{v:D}{e:Env}:put none v e=e:=aD rfl
@[simp] theorem avb{e:Env}{n:Nat}:bf e (.t n)=(get e n).strip:=aD rfl
@[simp] theorem aza{e:Env}{d:D}:bf e (.c d)=d:=aD rfl
@[simp] theorem agh{e:Env}:restrict [] e=[]:=aD rfl
@[simp] theorem aeP{t:Nat}{l:List Nat}{e:Env}:restrict (t::l) e=(t,(get e t).calm)::restrict l e:=aD rfl
@[simp] theorem ar9{n:Nat}:nj n []=[]:=aD rfl
@[simp] theorem aqB{n:Nat}{d:D}{ds:List D}:nj n (d::ds)=(n,d)::nj (n+1) ds:=aD rfl
section
variable {e:Env} {σ:SK}
@[simp] theorem avl:y9 e σ []=some []:=aD rfl
@[simp] theorem asw{r:Dn}{rs:List Dn}:y9 e σ (r::rs)=(Hk e σ r).bind fun d=>(y9 e σ rs).map fun ds=>d::ds:=aD rfl
@[simp] theorem ax7{n:Nat}:Hk e σ (.t n)=some (get e n).strip:=aD rfl
@[simp] theorem ax6{n sz:Nat}{ag:Bool}:Hk e σ (.c n ag sz)=LV ag sz (EV σ (get e n).strip):=by
 simp only[Hk,bM,avb];cases EV σ (get e n).strip with
 |none=>rfl
 |some cs =>
  simp only[LV];split
  ·cases ag
   ·cases cs<;>rfl
   ·rfl
  ·rfl
@[simp] theorem ax8{n sz:Nat}{ag:Bool}:Hk e σ (.v n ag sz)=adK e n ag sz n:=by
 simp only[Hk,bM,adK];cases rM e n n with
 |none=>rfl
 |some x =>
  obtain⟨s,cs,off⟩:=x;simp only[LV,aS];split
  ·cases ag
   ·cases cs.drop off<;>rfl
   ·rfl
  ·rfl
@[simp] theorem asb{d:D}:tX [d]=d:=aD rfl
@[simp] theorem asa:tX []=.dG []:=aD rfl
@[simp] theorem asc{d d':D}{ds:List D}:tX (d::d'::ds)=.dG (d::d'::ds):=aD rfl
@[simp] theorem arX{cs:List D}:rL e [] cs=some cs:=aD rfl
@[simp] theorem aqr{off sz:Nat}{x:bL}{r:List (Nat×Nat×bL)}{cs:List D}:rL e ((off,sz,x)::r) cs =
  ((bf e x).cells.bind fun p=>if p.length=sz∧off+sz≤cs.length then some (cs.take off++p++cs.drop (off+sz))else none).bind (rL e r):=by
 simp only[rL];cases(bf e x).cells with
 |none=>rfl
 |some p=>dsimp only [Option.bind_some];split<;>rfl
@[simp] theorem arT{w n:Nat}{cs:List D}:elems σ w (.aH n cs)=if cs.length=n*w then some (n,cs)else none:=aD rfl
end
attribute [simp] bM Je kP hJ rM ue arJ adK BC bounds D.row cells? ei gh aV iF
@[simp] theorem alJ{b:Bool}:D.clean (.bool b)=true:=by rw[D.clean]
@[simp] theorem aq3{k:IntKind}{n:Int}:D.clean (.int k n)=true:=by rw[D.clean]
@[simp] theorem aq5{s:List UInt8}:D.clean (.str s)=true:=by rw[D.clean]
@[simp] theorem alM:D.clean .aF=true:=by rw[D.clean]
@[simp] theorem aq2{t:Nat}{d:D}:D.clean (.tW t d)=D.clean d:=by rw[D.clean]
@[simp] theorem alL:D.clean .iP=true:=by rw[D.clean]
@[simp] theorem asv{l i v o n w:Nat}:D.clean (.sl l i v o n w)=false:=by rw[D.clean]
@[simp] theorem aq1{cs:List D}:D.clean (.agg cs)=D.bz cs:=by rw[D.clean]
@[simp] theorem aq6{cs:List D}:D.clean (.dG cs)=D.bz cs:=by rw[D.clean]
@[simp] theorem alK{cs:List D}:D.clean (.bF cs)=D.bz cs:=by rw[D.clean]
@[simp] theorem aq4{n:Nat}{cs:List D}:D.clean (.aH n cs)=D.bz cs:=by rw[D.clean]
@[simp] theorem asu{f:Nat}{a b:List D}:D.clean (.fn f a b)=(D.bz a && D.bz b):=by rw[D.clean]
@[simp] theorem amL:D.bz []=true:=by rw[D.bz]
@[simp] theorem agT{d:D}{ds:List D}:D.bz (d::ds)=(D.clean d && D.bz ds):=by rw[D.bz]
@[simp] theorem S3:deep=16:=aD rfl
@[simp] theorem jj{l n:Nat}{d:D}{σ:SK}(h:d.clean=true)(hn:0<n):cz l n d σ=(d,σ):=by
 obtain⟨m,rfl⟩:∃m,n=m+1:=⟨n-1,by omega⟩;unfold cz;simp[h]
@[simp] theorem aqs{l n:Nat}{ds:List D}{σ:SK}(h:D.bz ds=true)(hn:0<n):cz.frzL (cz l n) ds σ=(ds,σ):=by
 induction ds generalizing σ with
 |nil=>rfl
 |cons d ds ih =>
  simp only[D.bz,af]at h;simp[cz.frzL,h.1,ih h.2,hn]
@[simp] theorem yV{f:D→SK→D×SK}{σ:SK}:cz.frzL f [] σ=([],σ):=aD rfl
@[simp] theorem wA{f:D→SK→D×SK}{d:D}{ds:List D}{σ:SK}:cz.frzL f (d::ds) σ=((f d σ).1::(cz.frzL f ds (f d σ).2).1,(cz.frzL f ds (f d σ).2).2):=aD rfl
theorem BI{l n:Nat}{ds:List D}{σ:SK}(h:D.bz ds=false)(hn:0<n):cz l n (.dG ds) σ=(.dG (cz.frzL (cz l (n-1)) ds σ).1,(cz.frzL (cz l (n-1)) ds σ).2):=by
 obtain⟨m,rfl⟩:∃m,n=m+1:=⟨n-1,by omega⟩
 conv=>lhs;unfold cz
 simp[D.clean,h]
theorem Pr{l n:Nat}{ds:List D}{σ:SK}(h:D.bz ds=false)(hn:0<n):cz l n (.agg ds) σ=(.agg (cz.frzL (cz l (n-1)) ds σ).1,(cz.frzL (cz l (n-1)) ds σ).2):=by
 obtain⟨m,rfl⟩:∃m,n=m+1:=⟨n-1,by omega⟩
 conv=>lhs;unfold cz
 simp[D.clean,h]
theorem C7{l n l' i v off m w:Nat}{σ:SK}{cs:List D}(h:¬l'≤l)(hc:cells? σ l' i v=some cs)(hn:0<n):
  cz l n (.sl l' i v off m w) σ=(.aH m (cz.frzL (cz l (n-1)) ((cs.drop off).take (m*w)) (aV σ l' i .dead)).1,(cz.frzL (cz l (n-1)) ((cs.drop off).take (m*w)) (aV σ l' i .dead)).2):=by
 obtain⟨m,rfl⟩:∃m,n=m+1:=⟨n-1,by omega⟩
 conv=>lhs;unfold cz
 simp only[D.clean,h,hc,aw,if_false,Nat.add_sub_cancel]
@[simp] theorem aqu{l n l' i v off m w:Nat}{σ:SK}(h:l'≤l)(hn:0<n):cz l n (.sl l' i v off m w) σ=(.sl l' i v off m w,σ):=by
 obtain⟨m,rfl⟩:∃m,n=m+1:=⟨n-1,by omega⟩
 conv=>lhs;unfold cz
 simp only[D.clean,h,if_true,aw,if_false]
@[simp] theorem alu{l n l' i v off:Nat}{σ:SK}(h:l'≤l)(hn:0<n):cz l n (.ref l' i v off) σ=(.ref l' i v off,σ):=by
 obtain⟨m,rfl⟩:∃m,n=m+1:=⟨n-1,by omega⟩
 conv=>lhs;unfold cz
 simp only[D.clean,h,if_true,aw,if_false]
@[simp] theorem axY{n:Nat}:(n+1+1=n)=False:=by simp;omega
@[simp] theorem axZ{n:Nat}:(n+1+1+1=n)=False:=by simp;omega
@[simp] theorem ax0{n:Nat}:(n+1+1+1+1=n)=False:=by simp;omega
@[simp] theorem ax1{n:Nat}:(n+1+1+1+1+1=n)=False:=by simp;omega
theorem Ct{a b:List D}:D.bz (a++b)=(D.bz a && D.bz b):=by
 induction a with
 |nil=>rfl
 |cons d a ih=>simp[D.bz,ih,Bool.and_assoc]
end Go.Abs
