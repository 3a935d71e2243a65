import Derived.Test.YtfgljaglidhjiaaGreatDoorBase12
import Derived.Lib.LaidTab
import Derived.LaidLaws
import Derived.Shelf.Vars
set_option linter.all false
namespace Go.Abs
open Go
theorem Tr{P:Program}{w:World}:∀{l:List (String×DataW Unit)} {ps:List MemPlace},DataW.LaidVars P w l ps→∀x∈l,
  ∃g t cs fuel p,P.globalNamed x.1=some g∧(P.globals[g]?).map (·.type)=some t∧w.var? P x.1=some cs∧DataW.trod (fun _=>()) P w 0 (fun _=>true) false fuel t cs.toList=some (x.2,p) ∧
   ∀m∈MemPlace.row ⟨g,0,none⟩ cs.size,m∈ps
 |[],_,_,x,hx=>by cases hx
 |(n,d)::r,ps,h,x,hx=>by
  obtain⟨g,t,cs,fuel,p,q,h1,h2,h3,h4,h5,rfl⟩:=h;rcases bf.1 hx with rfl | hx
  ·exact⟨g,t,cs,fuel,p,h1,h2,h3,h4,fun m hm=>by simp[hm]⟩
  ·obtain⟨g',t',cs',f',p',k1,k2,k3,k4,k5⟩:=Tr h5 x hx;exact⟨g',t',cs',f',p',k1,k2,k3,k4,fun m hm=>by simp[k5 m hm]⟩
theorem LR{P:Program}{w:World}{l:List (String×DataW Unit)}(hl:laidMet P l w){n:String}{d:DataW Unit}(hx:(n,d)∈l){b t:Nat}(hb:P.globalNamed n=some b)(ht:(P.globals[b]?).map (·.type)=some t):
  ∃cs fuel p,DataW.trod (fun _=>()) P w 0 (fun _=>true) false fuel t cs.toList=some (d,p)∧(0<cs.size→∃t',w.heap[b]?=some (.cells cs t' (0,0))):=by
 obtain⟨ps,h1,_,h2⟩:=hl;obtain⟨g,t',cs,fuel,p,k1,k2,k3,k4,k5⟩:=Tr h1 _ hx;obtain rfl:=Option.some.inj (hb.symm.trans k1);obtain rfl:=Option.some.inj (ht.symm.trans k2);refine⟨cs,fuel,p,k4,fun hpos=>?_⟩;obtain⟨⟨c,t',hc⟩,_⟩:=h2 b 0 (k5 _ (by simp only[MemPlace.row,bW,List.mem_range];exact⟨0,hpos,by simp⟩));simp only[World.var?,hb,Option.bind_some,hc,ae]at k3;subst k3;exact⟨t',hc⟩
theorem Ti{P:Program}{w:World}{l:List (String×DataW Unit)}(hl:laidMet P l w){n nm:String}{d:DataW Unit}(hx:(n,.iface nm d)∈l){b t:Nat}{ms:Array (String×TypeId)}(hb:P.globalNamed n=some b)
  (ht:(P.globals[b]?).map (·.type)=some t) (hu:P.underlying t=some (.interface ms)):∃c t v,w.heap[b]?=some (.cells c t (0,0))∧c[0]?=some v∧v.oneCell'=true∧aiP (.cells c t (0,0)):=by
 obtain⟨cs,fuel,p,h1,h2⟩:=LR hl hx hb ht;obtain⟨f1,u,v,hcs,_⟩:=iface_of_trod hu h1;obtain rfl:cs = #[.iface u v]:=by rw[← gR,hcs]
 obtain⟨t',hc⟩:=h2 (by simp);exact⟨_,t',.iface u v,hc,by simp,rfl,_,t',_,.iface u v,rfl,by simp,.inr ⟨u,v,rfl⟩⟩
theorem ajb{P:Program}{w:World}{l:List (String×DataW Unit)}(hl:laidMet P l w){n:String}(hx:(n,Lib.tabData .u64 Lib.pow10Tab)∈l){b t e k:Nat}(hb:P.globalNamed n=some b)
  (ht:(P.globals[b]?).map (·.type)=some t) (hu:P.underlying t=some (.array k e)) (he:P.underlying e=some (.int .u64)) (hce:P.cellsOf e=1) (hct:P.cellsOf t=k):
  ∃c t v,w.heap[b]?=some (.cells c t (0,0))∧c[0]?=some v∧v.oneCell'=true∧apX (.cells c t (0,0)):=by
 obtain⟨cs,fuel,p,h1,h2⟩:=LR hl hx hb ht;have hcs:=Lib.cells_of_tab hu he hce hct h1;obtain rfl:cs=(Lib.pow10Tab.map (Value.int .u64)).toArray:=by rw[← gR,hcs]
 obtain⟨t',hc⟩:=h2 (by decide);exact⟨_,t',.int .u64 1,hc,rfl,rfl,t',_,rfl⟩
theorem aja{P:Program}{w:World}(h:w.ShapedOpen P){g t:Nat}{zero:Array Value}(hg:g<P.globals.size)(h0:((begin P (fun _ _=>0) default).world.heap[g]?).bind Obj.row?=some (zero,t))(hz:zero.size=1)
  (hb:P.buildable t=true) (hc:P.cellTypes P.depth t=some [t]) (hu:P.underlying t=some (.int .i64)):∃c t v,w.heap[g]?=some (.cells c t (0,0))∧c[0]?=some v∧v.oneCell'=true∧apW (.cells c t (0,0)):=by
 obtain⟨m,hm⟩:=Go.Proofs.cell_of_shapedOpen_int h hg h0 hz hb hc hu;obtain⟨cs,hh,_⟩:=h.1 g zero t hg h0;have h1:cs[0]?=some (.int .i64 m):=by simpa[World.cell?,hh]using hm
 exact⟨cs,t,_,hh,h1,rfl,cs,t,_,m,rfl,h1⟩
variable {T:yZ} {O:bQ}
theorem aE.{u}{α:Sort u}{a b:α}(h:a=b):a=b:=h
inductive Mark.{u} {α:Sort u} (a:α):Type
 |mk
def WO(O:bQ)(ops:List Op)(e:Env)(σ:SK)(Q:Env→SK→Prop)(_m:Mark Q:=.mk):Prop:=∃e' σ',mz O ops e σ=some (e',σ')∧Q e' σ'
def WC(O:bQ)(c:cX)(e:Env)(σ:SK)(Q:Exit→Env→SK→Prop)(_m:Mark c:=.mk)(_m':Mark Q:=.mk):Prop:=∃x e' σ',aY O c e σ=some (x,e',σ')∧Q x e' σ'
def WV(o:Option (D×SK))(Q:D→SK→Prop)(_m:Mark Q:=.mk):Prop:=∃d σ',o=some (d,σ')∧Q d σ'
def WL(T:yZ)(live:List Nat)(bA:Bool)(c:cX)(e:Env)(σ:SK)(Q:Exit→Env→SK→Prop)(_m:Mark c:=.mk)(_m':Mark Q:=.mk):Prop:=∃x e' σ',bx T (.loop live bA c e σ)=some (.Eb x e' σ')∧Q x e' σ'
theorem WO.mono{ops:List Op}{e:Env}{σ:SK}{Q Q':Env→SK→Prop}(h:WO O ops e σ Q)(hq:∀e σ,Q e σ→Q' e σ):WO O ops e σ Q' :=
 let ⟨e',σ',h1,h2⟩:=h;⟨e',σ',h1,hq _ _ h2⟩
theorem WC.mono{c:cX}{e:Env}{σ:SK}{Q Q':Exit→Env→SK→Prop}(h:WC O c e σ Q)(hq:∀x e σ,Q x e σ→Q' x e σ):WC O c e σ Q' :=
 let ⟨x,e',σ',h1,h2⟩:=h;⟨x,e',σ',h1,hq _ _ _ h2⟩
theorem WL.mono{live:List Nat}{bA:Bool}{c:cX}{e:Env}{σ:SK}{Q Q':Exit→Env→SK→Prop}(h:WL T live bA c e σ Q)(hq:∀x e σ,Q x e σ→Q' x e σ):WL T live bA c e σ Q' :=
 let ⟨x,e',σ',h1,h2⟩:=h;⟨x,e',σ',h1,hq _ _ _ h2⟩
def WD{α:Type}(o:Option α)(Q:α→Prop)(_m:Mark Q:=.mk):Prop:=∃d,o=some d∧Q d
@[simp,simp ↓] theorem FJ{α:Type}{d:α}{Q:α→Prop}:WD (some d) Q=Q d:=by
 simp only[WD,ae,eq_iff_iff];exact⟨fun⟨_,h,h'⟩=>by rw[h];exact h',fun h=>⟨_,rfl,h⟩⟩
@[simp,simp ↓] theorem aiU{α:Type}{Q:α→Prop}:WD none Q=False:=by simp[WD]
def N9:D→Option Bool
 |.bool b=>some b
 |_=>none
@[simp] theorem ap7{b:Bool}:N9 (.bool b)=some b:=aE rfl
@[simp] theorem aws{b:Bool}:(D.bool b).bit=some (some b):=aE rfl
@[simp] theorem az7:(D.dM []).bit=some none:=aE rfl
def aqc(k:IntKind):D→Option D
 |.int _ m=>some (.int k (k.wrap m))
 |_=>none
@[simp] theorem awy{k k':IntKind}{m:Int}:aqc k (.int k' m)=some (.int k (k.wrap m)):=aE rfl
@[simp,simp ↓] theorem azZ{d:D}{σ:SK}{Q:D→SK→Prop}:WV (some (d,σ)) Q=Q d σ:=by
 simp only[WV,ae,an,eq_iff_iff];constructor
 ·rintro⟨_,_,⟨rfl,rfl⟩,h⟩;exact h
 ·exact fun h=>⟨_,_,⟨rfl,rfl⟩,h⟩
@[simp,simp ↓] theorem azY{Q:D→SK→Prop}:WV none Q=False:=by simp[WV]
@[simp,simp ↓] theorem aA7{e:Env}{σ:SK}{Q:Env→SK→Prop}:WO O [] e σ Q=Q e σ:=by
 simp only[WO,mz,ae,an,eq_iff_iff];constructor
 ·rintro⟨_,_,⟨rfl,rfl⟩,h⟩;exact h
 ·exact fun h=>⟨_,_,⟨rfl,rfl⟩,h⟩
def aCt(d:D)(w:Bool):Option Bool :=
 match d with
 |.bool b=>some (b == w)
 |_=>none
@[simp,simp ↓] theorem aAX{d:Option Nat}{g:Nat}{w n:Bool}{k:K}{r:List Op}{e:Env}{σ:SK}{Q:Env→SK→Prop}:
  WO O (⟨d,some (g,w),n,k⟩::r) e σ Q=WD (get e g).bit fun b=>if b=some w then WO O (⟨d,none,n,k⟩::r) e σ Q else WO O r (put d (.dM []) e) σ Q:=by
 cases h:(get e g).bit<;>simp only[WO,mz,h,reduceCtorEq,false_and,exists_false,aiU,FJ];rename_i b;by_cases hb:b=some w
 ·simp only[hb,if_true];rfl
 ·simp only[if_neg hb]
theorem dJ{d:Option Nat}{n:Bool}{k:K}{r:List Op}{e:Env}{σ:SK}{Q:Env→SK→Prop}(h:wc O ⟨d,none,n,k⟩ e σ=(bN e σ k).map fun x=>(put d x.1 e,x.2)):
  WO O (⟨d,none,n,k⟩::r) e σ Q=WV (bN e σ k) fun v σ'=>WO O r (put d v e) σ' Q:=by
 simp only[WO,mz,h,WV,eq_iff_iff];constructor
 ·rintro⟨e',σ',h1,h2⟩;cases hs:bN e σ k with
  |none=>simp[hs]at h1
  |some y=>simp[hs]at h1;exact⟨y.1,y.2,rfl,e',σ',h1,h2⟩
 ·rintro⟨v,σ1,h1,e',σ',h2,h3⟩;exact⟨e',σ',by simp[h1,h2],h3⟩
theorem nK{o:Option (D×SK)}{o':Option D}{σ:SK}{Q:D→SK→Prop}(h:o=o'.map (·,σ)):WV o Q=WD o' fun v=>Q v σ:=by
 subst h;cases o'<;>simp
def ag7:D→Option D
 |.aG=>some (.int .i64 0)
 |.aI n _=>some (.int .i64 n)
 |.sl _ _ _ _ n _=>some (.int .i64 n)
 |_=>none
@[simp] theorem avv:ag7 .aG=some (.int .i64 0):=aE rfl
@[simp] theorem ayo{n:Nat}{cs:List D}:ag7 (.aI n cs)=some (.int .i64 n):=aE rfl
@[simp] theorem aAi{l i v o n w:Nat}:ag7 (.sl l i v o n w)=some (.int .i64 n):=aE rfl
def PB(ag:Bool)(sz:Nat):Option (List D)→Option D
 |some cs =>
  if sz≤cs.length then
   if ag then some (.agg (cs.take sz))else
   match cs with
   |d::_=>some d
   |[]=>none
  else none
 |none=>none
@[simp] theorem aBm{sz:Nat}{cs:List D}:PB true sz (some cs)=if sz≤cs.length then some (.agg (cs.take sz))else none:=aE rfl
@[simp] theorem aAg{d:D}{cs:List D}:PB false 1 (some (d::cs))=some d:=by simp[PB]
@[simp] theorem ayC{σ:SK}{cs:List D}:HH σ (.bI cs)=some cs:=aE rfl
@[simp] theorem aAo{σ:SK}{l i v off:Nat}:HH σ (.ref l i v off)=(cells? σ l i v).map (·.drop off):=aE rfl
def ag6(e:Env)(v:Nat)(ag:Bool)(sz a:Nat):Option D:=PB ag sz ((rR e v a).map fun x=>x.2.1.drop x.2.2)
def Ws:D→Option (List D)
 |.bI cs=>some cs
 |_=>none
@[simp] theorem aqa{cs:List D}:Ws (.bI cs)=some cs:=aE rfl
@[simp] theorem avt:Lc false .aG=some true:=aE rfl
@[simp] theorem ayk{n:Nat}{cs:List D}:Lc false (.aI n cs)=if n=0 then none else some false:=aE rfl
def ays:D→Option D
 |.bI cs=>some (.bI cs)
 |.ref l i v off=>some (.ref l i v off)
 |_=>none
@[simp] theorem ayt{l i v off:Nat}:ays (.ref l i v off)=some (.ref l i v off):=aE rfl
def unD:UnOp→D→Option D
 |.not,.bool b=>some (.bool !b)
 |.neg,.int k n=>some (.int k (k.wrap (0-n)))
 |.xor,.int k n=>some (.int k (k.wrap ((BitVec.ofInt k.bits (if k.signed then -1 else k.max) ^^^ BitVec.ofInt k.bits n).toNat:Int)))
 |_,_=>none
theorem azn{n:Nat}(h:n<256):unD .xor (.int .u8 n)=some (.int .u8 ((255-n:Nat):Int)):=by
 have key:∀m:Fin 256,IntKind.u8.wrap ((BitVec.ofInt 8 255 ^^^ BitVec.ofInt 8 (m.1:Int)).toNat:Int)=((255-m.1:Nat):Int):=by decide +kernel
 have:=key ⟨n,h⟩;simp only[unD];exact congrArg (fun z=>some (D.int .u8 z)) this
@[simp] theorem aAw{b:Bool}:unD .not (.bool b)=some (.bool !b):=aE rfl
@[simp] theorem aAv{k:IntKind}{n:Int}:unD .neg (.int k n)=some (.int k (k.wrap (0-n))):=aE rfl
def Oy(n off:Nat):D→Option D
 |.bI cs=>some (.bI (cs.drop off))
 |.ref l i v o=>some (.ref l i v (o+off))
 |.own s _=>some (.vr n s off)
 |.vr v s o=>some (.vr v s (o+off))
 |_=>none
@[simp] theorem atK{n off:Nat}{cs:List D}:Oy n off (.bI cs)=some (.bI (cs.drop off)):=aE rfl
@[simp] theorem avj{n off l i v o:Nat}:Oy n off (.ref l i v o)=some (.ref l i v (o+off)):=aE rfl
@[simp] theorem avi{n off s:Nat}{cs:List D}:Oy n off (.own s cs)=some (.vr n s off):=aE rfl
@[simp] theorem ax6{n off v s o:Nat}:Oy n off (.vr v s o)=some (.vr v s (o+off)):=aE rfl
def aCT(ag:Bool)(off sz:Nat):D→Option D
 |.agg cs =>
  if off+sz≤cs.length then
   if ag then some (.agg ((cs.drop off).take sz))else cs[off]?
  else none
 |_=>none
def OQ(m len w:Nat)(x i:D):Option D :=
 match Gi i with
 |some n =>
  if 0≤n∧n<len then
   match x with
   |.bI cs=>some (.bI ((cs.drop (n.toNat*w)).take w))
   |.ref l j v off=>some (.ref l j v (off+n.toNat*w))
   |.own s _=>some (.vr m s (n.toNat*w))
   |.vr v s o=>some (.vr v s (o+n.toNat*w))
   |_=>none
  else none
 |none=>none
@[simp] theorem atQ{m len w:Nat}{cs:List D}{k:IntKind}{n:Int}:OQ m len w (.bI cs) (.int k n)=if 0≤n∧n<len then some (.bI ((cs.drop (n.toNat*w)).take w))else none:=aE rfl
@[simp] theorem avp{m len w l j v off:Nat}{k:IntKind}{n:Int}:OQ m len w (.ref l j v off) (.int k n)=if 0≤n∧n<len then some (.ref l j v (off+n.toNat*w))else none:=aE rfl
@[simp] theorem ayg{m len w v s o:Nat}{k:IntKind}{n:Int}:OQ m len w (.vr v s o) (.int k n)=if 0≤n∧n<len then some (.vr v s (o+n.toNat*w))else none:=aE rfl
def Tm(w:Nat)(x i:D):Option D :=
 match x,Gi i with
 |.aI m cs,some n=>if 0≤n∧n<m then some (.bI ((cs.drop (n.toNat*w)).take w))else none
 |.sl l j v off m w',some n=>if 0≤n∧n<m∧w'=w then some (.ref l j v (off+n.toNat*w))else none
 |_,_=>none
@[simp] theorem avq{w m:Nat}{cs:List D}{k:IntKind}{n:Int}:Tm w (.aI m cs) (.int k n)=if 0≤n∧n<m then some (.bI ((cs.drop (n.toNat*w)).take w))else none:=aE rfl
@[simp] theorem ayh{w l j v off m w':Nat}{k:IntKind}{n:Int}:Tm w (.sl l j v off m w') (.int k n)=if 0≤n∧n<m∧w'=w then some (.ref l j v (off+n.toNat*w))else none:=aE rfl
def agR(ag:Bool)(len w:Nat)(x i:D):Option D :=
 match x,Gi i with
 |.agg cs,some n =>
  if 0≤n∧n<len∧(n.toNat+1)*w≤cs.length then
   if ag then some (.agg ((cs.drop (n.toNat*w)).take w))else cs[n.toNat*w]?
  else none
 |_,_=>none
@[simp] theorem avr{ag:Bool}{len w:Nat}{cs:List D}{k:IntKind}{n:Int}:agR ag len w (.agg cs) (.int k n)=if 0≤n∧n<len∧(n.toNat+1)*w≤cs.length then(if ag then some (.agg ((cs.drop (n.toNat*w)).take w))else cs[n.toNat*w]?)else none:=aE rfl
def mnD(x y:D):Option D :=
 match x,y with
 |.int k a,.int _ b=>some (.int k (min a b))
 |_,_=>none
@[simp] theorem aAj{k k':IntKind}{a b:Int}:mnD (.int k a) (.int k' b)=some (.int k (min a b)):=aE rfl
def mxD(x y:D):Option D :=
 match x,y with
 |.int k a,.int _ b=>some (.int k (max a b))
 |_,_=>none
@[simp] theorem aAk{k k':IntKind}{a b:Int}:mxD (.int k a) (.int k' b)=some (.int k (max a b)):=aE rfl
def awF(x:D)(i:Nat):Option D :=
 match x with
 |.dM ds=>ds[i]?
 |_=>none
@[simp] theorem awG{ds:List D}{i:Nat}:awF (.dM ds) i=ds[i]?:=aE rfl
def aqj(ag:Bool)(ks:List (Option IntKind))(neg:Bool)(x y:D):Option D :=
 match x.row ag,y.row ag with
 |some p,some q=>(AG ks p q).map fun b => .bool (if neg then !b else b)
 |_,_=>none
@[simp] theorem aAa{ks:List (Option IntKind)}{neg:Bool}{p q:List D}:aqj true ks neg (.agg p) (.agg q)=(AG ks p q).map fun b => .bool (if neg then !b else b):=aE rfl
@[simp] theorem ayE:AG [] [] []=some true:=aE rfl
@[simp] theorem ayD{k k1 k2:IntKind}{ks:List (Option IntKind)}{a b:Int}{x y:List D}:AG (some k::ks) (.int k1 a::x) (.int k2 b::y)=if k1=k∧k2=k then(AG ks x y).map (a == b && ·)else none:=aE rfl
def ajM(w:Nat)(x:D)(e:Env)(lo hi mx:Option bM):Option D :=
 match x with
 |.aI n cs=>(bounds n e lo hi mx).map fun b => .aI (b.2-b.1) ((cs.drop (b.1*w)).take ((b.2-b.1)*w))
 |.sl l i v off n w'=>if w'=w then(bounds n e lo hi mx).map fun b => .sl l i v (off+b.1*w) (b.2-b.1) w else none
 |.aG=>(bounds 0 e lo hi mx).map fun _ => .aG
 |_=>none
@[simp] theorem azf{w n:Nat}{cs:List D}{e:Env}{lo hi mx:Option bM}:ajM w (.aI n cs) e lo hi mx=(bounds n e lo hi mx).map fun b => .aI (b.2-b.1) ((cs.drop (b.1*w)).take ((b.2-b.1)*w)):=aE rfl
@[simp] theorem aAq{w l i v off n w':Nat}{e:Env}{lo hi mx:Option bM}:ajM w (.sl l i v off n w') e lo hi mx=if w'=w then(bounds n e lo hi mx).map fun b => .sl l i v (off+b.1*w) (b.2-b.1) w else none:=aE rfl
section bins
variable {k:IntKind} {a b:Int}
@[simp] theorem awf:tw .add (.int k a) (.int k b)=some (.int k (k.wrap (a+b))):=by simp[tw]
@[simp] theorem awr:tw .sub (.int k a) (.int k b)=some (.int k (k.wrap (a-b))):=by simp[tw]
@[simp] theorem awl:tw .mul (.int k a) (.int k b)=some (.int k (k.wrap (a*b))):=by simp[tw]
@[simp] theorem awn:tw .quo (.int k a) (.int k b)=if b≠0 then some (.int k (k.wrap (a.tdiv b)))else none:=by simp[tw]
@[simp] theorem awo:tw .rem (.int k a) (.int k b)=if b≠0 then some (.int k (a.tmod b))else none:=by simp[tw]
@[simp] theorem awp{k':IntKind}:tw .shl (.int k a) (.int k' b)=if b<0 then none else some (.int k (k.wrap (a*2^(min b.toNat k.bits)))):=aE rfl
@[simp] theorem awq{k':IntKind}:tw .shr (.int k a) (.int k' b)=if b<0 then none else some (.int k (a.fdiv (2^(min b.toNat k.bits)))):=aE rfl
@[simp] theorem az6:tw .or (.int k a) (.int k b)=some (.int k (k.wrap ((BitVec.ofInt k.bits a ||| BitVec.ofInt k.bits b).toNat:Int))):=by simp[tw]
@[simp] theorem awg:tw .eql (.int k a) (.int k b)=some (.bool (a == b)):=by simp[tw]
@[simp] theorem awm:tw .neq (.int k a) (.int k b)=some (.bool (a != b)):=by simp[tw]
@[simp] theorem awk:tw .lss (.int k a) (.int k b)=some (.bool (decide (a<b))):=by simp[tw]
@[simp] theorem awj:tw .leq (.int k a) (.int k b)=some (.bool (decide (a≤b))):=by simp[tw]
@[simp] theorem awi:tw .gtr (.int k a) (.int k b)=some (.bool (decide (b<a))):=by simp[tw]
@[simp] theorem awh:tw .geq (.int k a) (.int k b)=some (.bool (decide (b≤a))):=by simp[tw]
end bins
@[simp] theorem ajH:D.strip .undef=.undef:=aE rfl
@[simp] theorem ao9{b:Bool}:D.strip (.bool b)=.bool b:=aE rfl
@[simp] theorem auA{k:IntKind}{n:Int}:D.strip (.int k n)=.int k n:=aE rfl
@[simp] theorem auD{s:List UInt8}:D.strip (.str s)=.str s:=aE rfl
@[simp] theorem auy{cs:List D}:D.strip (.agg cs)=.agg cs:=aE rfl
@[simp] theorem auE{cs:List D}:D.strip (.dM cs)=.dM cs:=aE rfl
@[simp] theorem auC{l i v o:Nat}:D.strip (.ref l i v o)=.ref l i v o:=aE rfl
@[simp] theorem apa{cs:List D}:D.strip (.bI cs)=.bI cs:=aE rfl
@[simp] theorem apd:D.strip .aG=.aG:=aE rfl
@[simp] theorem auB{n:Nat}{cs:List D}:D.strip (.aI n cs)=.aI n cs:=aE rfl
@[simp] theorem avS{l i v o n w:Nat}:D.strip (.sl l i v o n w)=.sl l i v o n w:=aE rfl
@[simp] theorem avR{f:Nat}{a b:List D}:D.strip (.fn f a b)=.fn f a b:=aE rfl
@[simp] theorem auz{t:Nat}{d:D}:D.strip (.ud t d)=.ud t d:=aE rfl
@[simp] theorem apb:D.strip .pg=.pg:=aE rfl
@[simp] theorem avF{t:Nat}{d:D}:D.calm (.ud t d)=.ud t d:=aE rfl
@[simp] theorem aug:D.calm .pg=.pg:=aE rfl
@[simp] theorem auF{l i:Nat}:D.strip (.mB l i)=.mB l i:=aE rfl
@[simp] theorem ao2:D.calm .undef=.undef:=aE rfl
@[simp] theorem aue{b:Bool}:D.calm (.bool b)=.bool b:=aE rfl
@[simp] theorem avG{k:IntKind}{n:Int}:D.calm (.int k n)=.int k n:=aE rfl
@[simp] theorem avK{s:List UInt8}:D.calm (.str s)=.str s:=aE rfl
@[simp] theorem avE{cs:List D}:D.calm (.agg cs)=.agg cs:=aE rfl
@[simp] theorem avJ{l i v o:Nat}:D.calm (.ref l i v o)=.ref l i v o:=aE rfl
@[simp] theorem auf{cs:List D}:D.calm (.bI cs)=.bI cs:=aE rfl
@[simp] theorem auh:D.calm .aG=.aG:=aE rfl
@[simp] theorem avH{n:Nat}{cs:List D}:D.calm (.aI n cs)=.aI n cs:=aE rfl
@[simp] theorem ayB{l i v o n w:Nat}:D.calm (.sl l i v o n w)=.sl l i v o n w:=aE rfl
@[simp] theorem ayA{f:Nat}{a b:List D}:D.calm (.fn f a b)=.fn f a b:=aE rfl
@[simp] theorem avL{l i:Nat}:D.calm (.mB l i)=.mB l i:=aE rfl
@[simp] theorem avI{s:Nat}{cs:List D}:D.calm (.own s cs)=.own 0 cs:=aE rfl
@[simp] theorem ao3{b:Bool}:D.cells (.bool b)=some [.bool b]:=aE rfl
@[simp] theorem auj{k:IntKind}{n:Int}:D.cells (.int k n)=some [.int k n]:=aE rfl
@[simp] theorem aum{s:List UInt8}:D.cells (.str s)=some [.str s]:=aE rfl
@[simp] theorem aui{cs:List D}:D.cells (.agg cs)=some cs:=aE rfl
@[simp] theorem aul{l i v o:Nat}:D.cells (.ref l i v o)=some [.ref l i v o]:=aE rfl
@[simp] theorem auk{n:Nat}{cs:List D}:D.cells (.aI n cs)=some [.aI n cs]:=aE rfl
@[simp] theorem avN{l i v o n w:Nat}:D.cells (.sl l i v o n w)=some [.sl l i v o n w]:=aE rfl
@[simp] theorem avM{f:Nat}{a b:List D}:D.cells (.fn f a b)=some [.fn f a b]:=aE rfl
@[simp] theorem aun{l i:Nat}:D.cells (.mB l i)=some [.mB l i]:=aE rfl
@[simp] theorem ayi{k:IntKind}{n:Int}:Gi (.int k n)=some n:=aE rfl
@[simp] theorem sc{O:bQ}{kp:Bool}{f:Nat}{first cap args:List D}{σ:SK}:pn O kp (.fn f first cap) args σ=R.bu (O (.call kp f (first++args++cap) σ)):=aE rfl
@[simp] theorem avc{O:bQ}{kp:Bool}{l i:Nat}{args:List D}{σ:SK}:pn O kp (.mB l i) args σ=R.bu (O (.round l i args σ)):=aE rfl
@[simp] theorem azp{d:D}{σ:SK}:R.bu (some (.val d σ))=some (d,σ):=aE rfl
section ops
variable {d:Option Nat} {n:Bool} {r:List Op} {e:Env} {σ:SK} {Q:Env→SK→Prop}
@[simp,simp ↓] theorem aB0{x:bM}:WO O (⟨d,none,n,.mv x⟩::r) e σ Q=WO O r (put d (bj e x) e) σ Q:=by rw[dJ rfl];simp[bN]
@[simp,simp ↓] theorem azW{w:Nat}:WO O (⟨d,none,n,.pB w⟩::r) e σ Q=WV (bN e σ (.pB w)) fun v σ'=>WO O r (put d v e) σ' Q:=dJ rfl
@[simp,simp ↓] theorem aAL{nb:List (Nat×Nat)}{cs:List D}:WO O (⟨d,none,n,.K5 nb cs⟩::r) e σ Q=WV (bN e σ (.K5 nb cs)) fun v σ'=>WO O r (put d v e) σ' Q:=dJ rfl
@[simp,simp ↓] theorem azX{c a b:bM}:WO O (⟨d,none,n,.pick c a b⟩::r) e σ Q=WD (N9 (bj e c)) fun t=>WO O r (put d (if t then bj e a else bj e b) e) σ Q:=by
 rw[dJ rfl];simp only[bN];cases bj e c<;>simp[N9]
@[simp,simp ↓] theorem azN{x:bM}:WO O (⟨d,none,n,.K6 x⟩::r) e σ Q=WD (bj e x).cells fun cs=>WO O r (put d (.bI cs) e) σ Q:=by
 rw[dJ rfl];simp only[bN];cases(bj e x).cells<;>simp
@[simp,simp ↓] theorem azO{x:bM}:WO O (⟨d,none,n,.K7 x⟩::r) e σ Q=WV (bN e σ (.K7 x)) fun v σ'=>WO O r (put d v e) σ' Q:=dJ rfl
@[simp,simp ↓] theorem aAS{nb:List (Nat×Nat)}{x:bM}:WO O (⟨d,none,n,.bxn nb x⟩::r) e σ Q=WV (bN e σ (.bxn nb x)) fun v σ'=>WO O r (put d v e) σ' Q:=dJ rfl
@[simp,simp ↓] theorem aAP{z:List D}{ps:List (Nat×Nat×bM)}:WO O (⟨d,none,n,.lK z ps⟩::r) e σ Q=WD (rQ e ps z) fun cs=>WO O r (put d (.agg cs) e) σ Q:=by
 rw[dJ rfl];simp only[bN];cases rQ e ps z<;>simp
@[simp,simp ↓] theorem aAQ{m w:Nat}{z:List D}{ps:List (Nat×Nat×bM)}:WO O (⟨d,none,n,.uH m w z ps⟩::r) e σ Q=WD (rQ e ps z) fun cs=>WO O r (put d (.aI m cs) e) σ Q:=by
 rw[dJ rfl];simp only[bN];cases rQ e ps z<;>simp
@[simp,simp ↓] theorem aAR{m w:Nat}{z:List D}{ps:List (Nat×Nat×bM)}:WO O (⟨d,none,n,.Oa m w z ps⟩::r) e σ Q=WV (bN e σ (.Oa m w z ps)) fun v σ'=>WO O r (put d v e) σ' Q:=dJ rfl
@[simp,simp ↓] theorem aBW{ag:Bool}{sz:Nat}{a:bM}:WO O (⟨d,none,n,.ld ag sz a⟩::r) e σ Q=WD (PB ag sz (HH σ (bj e a))) fun v=>WO O r (put d v e) σ Q:=by
 rw[dJ rfl];refine nK ?_;simp only[bN];cases HH σ (bj e a)with
 |none=>rfl
 |some cs =>
  simp only[PB];split
  ·cases ag
   ·cases cs<;>rfl
   ·rfl
  ·rfl
theorem TI{σ:SK}{l i off:Nat}:Vr σ (.ref l i 0 off)=HH σ (.ref l i 0 off):=rfl
@[simp,simp ↓] theorem aA0{ag:Bool}{sz:Nat}{a:bM}:WO O (⟨d,none,n,.Vo ag sz a⟩::r) e σ Q=WD (PB ag sz (Vr σ (bj e a))) fun v=>WO O r (put d v e) σ Q:=by
 rw[dJ rfl];refine nK ?_;simp only[bN];cases Vr σ (bj e a)with
 |none=>rfl
 |some cs =>
  simp only[PB];split
  ·cases ag
   ·cases cs<;>rfl
   ·rfl
  ·rfl
@[simp,simp ↓] theorem aA1{ag:Bool}{sz:Nat}{a:bM}:WO O (⟨d,none,n,.Vp ag sz a⟩::r) e σ Q=WD (PB ag sz (Ws (bj e a))) fun v=>WO O r (put d v e) σ Q:=by
 rw[dJ rfl];refine nK ?_;simp only[bN];cases bj e a with
 |bI cs =>
  simp only[Ws,PB];split
  ·cases ag
   ·cases cs<;>rfl
   ·rfl
  ·rfl
 |_=>rfl
@[simp,simp ↓] theorem aAZ{ps neg:Bool}{x:bM}:WO O (⟨d,none,n,.Vn ps neg x⟩::r) e σ Q=WD (Lc ps (bj e x)) fun b=>WO O r (put d (.bool (if neg then !b else b)) e) σ Q:=by
 rw[dJ rfl];simp only[bN];cases Lc ps (bj e x)<;>simp
@[simp,simp ↓] theorem aA6{x:bM}:WO O (⟨d,none,n,.mA x⟩::r) e σ Q=WD (ays (bj e x)) fun v=>WO O r (put d v e) σ Q:=by
 rw[dJ rfl];refine nK ?_;simp only[bN];cases bj e x<;>rfl
@[simp,simp ↓] theorem aB2{nb:List (Nat×Nat)}{sz:Nat}{a x:bM}:WO O (⟨d,none,n,.st nb sz a x⟩::r) e σ Q=WV (bN e σ (.st nb sz a x)) fun v σ'=>WO O r (put d v e) σ' Q:=dJ rfl
@[simp,simp ↓] theorem aBa{os:List Nat}{sz:Nat}{a x:bM}:WO O (⟨d,none,n,.QP os sz a x⟩::r) e σ Q=WV (bN e σ (.QP os sz a x)) fun v σ'=>WO O r (put d v e) σ' Q:=dJ rfl
@[simp] theorem aAl{l i l' i' v o:Nat}:D.off l i (.ref l' i' v o)=decide (¬(l'=l∧i'=i)):=by rw[D.off]
@[simp,simp ↓] theorem aA2{v:Nat}{ag:Bool}{sz a:Nat}:WO O (⟨d,none,n,.Vq v ag sz a⟩::r) e σ Q=WD (ag6 e v ag sz a) fun v=>WO O r (put d v e) σ Q:=by
 rw[dJ rfl];refine nK ?_;simp only[bN,ag6];cases rR e v a with
 |none=>rfl
 |some x =>
  obtain⟨s,cs,off⟩:=x;simp only[PB,aU];split
  ·cases ag
   ·cases cs.drop off<;>rfl
   ·rfl
  ·rfl
@[simp,simp ↓] theorem aAO{o:BinOp}{x y:bM}:WO O (⟨d,none,n,.bin o x y⟩::r) e σ Q=WD (tw o (bj e x) (bj e y)) fun v=>WO O r (put d v e) σ Q:=by
 rw[dJ rfl];simp only[bN];cases tw o (bj e x) (bj e y)<;>simp
@[simp,simp ↓] theorem aAV{ag:Bool}{ks:List (Option IntKind)}{neg:Bool}{x y:bM}:WO O (⟨d,none,n,.eqv ag ks neg x y⟩::r) e σ Q=WD (aqj ag ks neg (bj e x) (bj e y)) fun v=>WO O r (put d v e) σ Q:=by
 rw[dJ rfl];refine nK ?_;simp only[bN,aqj];cases(bj e x).row ag<;>cases(bj e y).row ag<;>simp[Option.map_map,Function.comp_def]
@[simp,simp ↓] theorem aB3{o:UnOp}{x:bM}:WO O (⟨d,none,n,.un o x⟩::r) e σ Q=WD (unD o (bj e x)) fun v=>WO O r (put d v e) σ Q:=by
 rw[dJ rfl];refine nK ?_;simp only[bN];cases o<;>cases bj e x<;>rfl
@[simp,simp ↓] theorem aAU{k:IntKind}{x:bM}:WO O (⟨d,none,n,.Oj k x⟩::r) e σ Q=WD (aqc k (bj e x)) fun v=>WO O r (put d v e) σ Q:=by
 rw[dJ rfl];simp only[bN];cases bj e x<;>simp[aqc]
@[simp,simp ↓] theorem aA8{p:Pu}{xs:List bM}:WO O (⟨d,none,n,.rl p xs⟩::r) e σ Q=WD (sw p (xs.map (bj e))) fun v=>WO O r (put d v e) σ Q:=by
 rw[dJ rfl];simp only[bN];cases sw p (xs.map (bj e))<;>simp
@[simp,simp ↓] theorem aBX{p:Me}{xs:List bM}:WO O (⟨d,none,n,.me p xs⟩::r) e σ Q=WV (meD σ p (xs.map (bj e))) fun v σ'=>WO O r (put d v e) σ' Q:=dJ rfl
@[simp,simp ↓] theorem aBZ{p:Mo}{xs:List bM}:WO O (⟨d,none,n,.mp p xs⟩::r) e σ Q=WV (BO σ p (xs.map (bj e))) fun v σ'=>WO O r (put d v e) σ' Q:=dJ rfl
@[simp,simp ↓] theorem aA4{t:Nat}{x:bM}:WO O (⟨d,none,n,.mki t x⟩::r) e σ Q=WO O r (put d (.ud t (bj e x)) e) σ Q:=by rw[dJ rfl];simp[bN]
@[simp,simp ↓] theorem aBc{t:Nat}{z:Option D}{x:bM}:WO O (⟨d,none,n,.tas t z x⟩::r) e σ Q=WD (QY t z (bj e x)) fun v=>WO O r (put d v e) σ Q:=by
 rw[dJ rfl];simp only[bN];cases QY t z (bj e x)<;>simp
@[simp,simp ↓] theorem aAY{neg:Bool}{x:bM}:WO O (⟨d,none,n,.isi neg x⟩::r) e σ Q=WD (agY (bj e x)) fun b=>WO O r (put d (.bool (if neg then !b else b)) e) σ Q:=by
 rw[dJ rfl];simp only[bN];cases agY (bj e x)<;>simp
@[simp] theorem avs:agY .pg=some true:=aE rfl
@[simp] theorem ayj{t:Nat}{d:D}:agY (.ud t d)=some false:=aE rfl
@[simp] theorem azi{t t':Nat}{z d:D}:QY t (some z) (.ud t' d)=some (if t'=t then .dM [d,.bool true]else .dM [z,.bool false]):=aE rfl
@[simp,simp ↓] theorem aA3{f:Nat}{xs ys:List bM}:WO O (⟨d,none,n,.yF f xs ys⟩::r) e σ Q=WO O r (put d (.fn f (xs.map (bj e)) (ys.map (bj e))) e) σ Q:=by rw[dJ rfl];simp[bN]
@[simp,simp ↓] theorem aA5{w b:Nat}{z:List D}{l c:bM}:WO O (⟨d,none,n,.mks w b z l c⟩::r) e σ Q=WV (bN e σ (.mks w b z l c)) fun v σ'=>WO O r (put d v e) σ' Q:=dJ rfl
@[simp,simp ↓] theorem aA9{w:Nat}{x:bM}{lo hi mx:Option bM}:WO O (⟨d,none,n,.Md w x lo hi mx⟩::r) e σ Q=WD (ajM w (bj e x) e lo hi mx) fun v=>WO O r (put d v e) σ Q:=by
 rw[dJ rfl];refine nK ?_;simp only[bN,ajM];cases bj e x<;>first | rfl | (simp only[];split<;>simp[Option.map_map,Function.comp_def]) | simp[Option.map_map,Function.comp_def]
@[simp,simp ↓] theorem azR{off m:Nat}:WO O (⟨d,none,n,.K9 off (.t m)⟩::r) e σ Q=WD (Oy m off (get e m)) fun v=>WO O r (put d v e) σ Q:=by
 rw[dJ rfl];refine nK ?_;simp only[bN];cases get e m<;>rfl
@[simp,simp ↓] theorem azS{l w m:Nat}{i:bM}:WO O (⟨d,none,n,.BM l w (.t m) i⟩::r) e σ Q=WD (OQ m l w (get e m) (bj e i)) fun v=>WO O r (put d v e) σ Q:=by
 rw[dJ rfl];refine nK ?_;simp only[bN,OQ];cases Gi (bj e i)with
 |none=>rfl
 |some k=>simp only[];split<;>cases get e m<;>rfl
@[simp,simp ↓] theorem azT{w:Nat}{x i:bM}:WO O (⟨d,none,n,.fh w x i⟩::r) e σ Q=WD (Tm w (bj e x) (bj e i)) fun v=>WO O r (put d v e) σ Q:=by
 rw[dJ rfl];refine nK ?_;simp only[bN,Tm];cases Gi (bj e i)with
 |none=>cases bj e x<;>rfl
 |some k=>cases bj e x<;>first | rfl | (simp only[];split<;>rfl)
@[simp,simp ↓] theorem azU{ag:Bool}{l w:Nat}{x i:bM}:WO O (⟨d,none,n,.MZ ag l w x i⟩::r) e σ Q=WD (agR ag l w (bj e x) (bj e i)) fun v=>WO O r (put d v e) σ Q:=by
 rw[dJ rfl];refine nK ?_;simp only[bN,agR];cases Gi (bj e i)with
 |none=>cases bj e x<;>rfl
 |some k=>cases bj e x<;>first | rfl | (simp only[];split<;>cases ag<;>simp)
@[simp,simp ↓] theorem azV{x:bM}:WO O (⟨d,none,n,.Ld x⟩::r) e σ Q=WD (ag7 (bj e x)) fun v=>WO O r (put d v e) σ Q:=by
 rw[dJ rfl];refine nK ?_;simp only[bN];cases bj e x<;>rfl
@[simp,simp ↓] theorem aBY{x y:bM}:WO O (⟨d,none,n,.mn x y⟩::r) e σ Q=WD (mnD (bj e x) (bj e y)) fun v=>WO O r (put d v e) σ Q:=by
 rw[dJ rfl];refine nK ?_;simp only[bN];cases bj e x<;>cases bj e y<;>rfl
@[simp,simp ↓] theorem aB1{x y:bM}:WO O (⟨d,none,n,.mx x y⟩::r) e σ Q=WD (mxD (bj e x) (bj e y)) fun v=>WO O r (put d v e) σ Q:=by
 rw[dJ rfl];refine nK ?_;simp only[bN];cases bj e x<;>cases bj e y<;>rfl
@[simp,simp ↓] theorem aAM{os:List Nat}{w b:Nat}{s x:bM}:WO O (⟨d,none,n,.Uj os w b s x⟩::r) e σ Q=WV (bN e σ (.Uj os w b s x)) fun v σ'=>WO O r (put d v e) σ' Q:=dJ rfl
@[simp,simp ↓] theorem aAN{w b:Nat}{s x:bM}:WO O (⟨d,none,n,.app w b s x⟩::r) e σ Q=WV (bN e σ (.app w b s x)) fun v σ'=>WO O r (put d v e) σ' Q:=dJ rfl
@[simp,simp ↓] theorem aAT{w b:Nat}{x:bM}:WO O (⟨d,none,n,.cpi w b x⟩::r) e σ Q=WV (bN e σ (.cpi w b x)) fun v σ'=>WO O r (put d v e) σ' Q:=dJ rfl
@[simp,simp ↓] theorem aAW{x:bM}{i:Nat}:WO O (⟨d,none,n,.ext x i⟩::r) e σ Q=WD (awF (bj e x) i) fun v=>WO O r (put d v e) σ Q:=by
 rw[dJ rfl];refine nK ?_;simp only[bN];cases bj e x<;>rfl
@[simp,simp ↓] theorem azQ{kp:Bool}{f:bM}{args:List bM}:WO O (⟨d,none,n,.call kp f args⟩::r) e σ Q =
  WV (pn O kp (bj e f) (args.map (bj e)) σ) fun v σ'=>(n=true→σ'=σ)∧WO O r (put d v e) σ' Q:=by
 simp only[WO,mz,wc,WV,eq_iff_iff];cases hc:pn O kp (bj e f) (args.map (bj e)) σ with
 |none=>simp
 |some y =>
  obtain⟨v,σ1⟩:=y;by_cases hn:n=true→σ1=σ
  ·simp only[if_pos hn,Option.bind_some,ae,an];exact⟨fun h=>⟨v,σ1,⟨rfl,rfl⟩,hn,h⟩,fun⟨_,_,⟨h1,h2⟩,_,h⟩=>by subst h1 h2;exact h⟩
  ·simp only[if_neg hn,Option.bind_none,reduceCtorEq,false_and,exists_false,ae,an,false_iff];rintro⟨_,_,⟨h1,h2⟩,h,_⟩;subst h1 h2;exact hn h
@[simp,simp ↓] theorem azM{nb:List (Nat×Nat)}{cs:List D}:WO O (⟨d,none,n,.eJ nb cs⟩::r) e σ Q=WD d fun v=>WD (kV nb cs σ) fun y=>WO O r ((v,.own (uq e v) y.1)::e) y.2 Q:=by
 cases d with
 |none=>simp[WO,mz,wc]
 |some v=>cases h:kV nb cs σ with
  |none=>simp[WO,mz,wc,h]
  |some y=>obtain⟨a,b⟩:=y;simp only[WO,mz,wc,h,Option.bind_some,FJ]
@[simp,simp ↓] theorem azP{x:bM}:WO O (⟨d,none,n,.Hj x⟩::r) e σ Q=WD d fun v=>WD (bj e x).cells fun cs=>WO O r ((v,.own (uq e v) cs)::e) σ Q:=by
 cases d with
 |none=>simp[WO,mz,wc]
 |some v=>cases h:(bj e x).cells with
  |none=>simp[WO,mz,wc,h]
  |some y=>simp only[WO,mz,wc,h,Option.bind_some,FJ]
def au4(e:Env)(σ:SK)(v:Nat)(nb:List (Nat×Nat))(sz a:Nat)(x:bM):Option (D×SK) :=
 match rR e v a,(bj e x).cells with
 |some (s,cs,off),some p =>
  if p.length=sz∧off+sz≤cs.length then
   match kV nb p σ with
   |some (p',σ')=>some (.own s (cs.take off++p'++cs.drop (off+sz)),σ')
   |none=>none
  else none
 |_,_=>none
@[simp,simp ↓] theorem aBb{v:Nat}{nb:List (Nat×Nat)}{sz a:Nat}{x:bM}:WO O (⟨d,none,n,.IN v nb sz a x⟩::r) e σ Q =
  WV (au4 e σ v nb sz a x) fun y σ'=>WO O r ((v,y)::e) σ' Q:=by
 simp only[WO,mz,wc,au4];cases h1:rR e v a with
 |none=>simp
 |some p =>
  obtain⟨s,cs,off⟩:=p;cases h2:(bj e x).cells with
  |none=>simp
  |some p =>
   dsimp only;split
   ·cases h3:kV nb p σ with
    |none=>simp
    |some y=>obtain⟨a,b⟩:=y;simp[WO]
   ·simp
end ops
section code
variable {e:Env} {σ:SK} {Q:Exit→Env→SK→Prop}
@[simp,simp ↓] theorem aAH:WC O .cI e σ Q=Q .normal e σ:=by
 simp only[WC,aY,ae,an,eq_iff_iff];exact⟨fun⟨_,_,_,⟨h1,h2,h3⟩,h⟩=>by subst h1 h2 h3;exact h,fun h=>⟨_,_,_,⟨rfl,rfl,rfl⟩,h⟩⟩
@[simp,simp ↓] theorem aAF{vs:List Nat}:WC O (.cG vs) e σ Q=Q .normal (u7 vs e σ).1 (u7 vs e σ).2:=by
 simp only[WC,aY,ae,an,eq_iff_iff];exact⟨fun⟨_,_,_,⟨h1,h2,h3⟩,h⟩=>by subst h1 h2 h3;exact h,fun h=>⟨_,_,_,⟨rfl,rfl,rfl⟩,h⟩⟩
@[simp,simp ↓] theorem azK{i:Nat}:WC O (.exit i) e σ Q=Q (.exit i) e σ:=by
 simp only[WC,aY,ae,an,eq_iff_iff];exact⟨fun⟨_,_,_,⟨h1,h2,h3⟩,h⟩=>by subst h1 h2 h3;exact h,fun h=>⟨_,_,_,⟨rfl,rfl,rfl⟩,h⟩⟩
@[simp,simp ↓] theorem aAJ:WC O .ret e σ Q=Q .ret e σ:=by
 simp only[WC,aY,ae,an,eq_iff_iff];exact⟨fun⟨_,_,_,⟨h1,h2,h3⟩,h⟩=>by subst h1 h2 h3;exact h,fun h=>⟨_,_,_,⟨rfl,rfl,rfl⟩,h⟩⟩
@[simp,simp ↓] theorem aAI{live:List Nat}{ops:List Op}:WC O (.ai live ops) e σ Q=WO O ops e σ fun e' σ'=>Q .normal (restrict live e') σ':=by
 simp only[WC,aY,WO,ad,an,eq_iff_iff];constructor
 ·rintro⟨x,e',σ',⟨⟨e1,σ1⟩,h1,rfl,rfl,rfl⟩,h⟩;exact⟨e1,σ1,h1,h⟩
 ·rintro⟨e',σ',h1,h⟩;exact⟨_,_,_,⟨⟨e',σ'⟩,h1,rfl,rfl,rfl⟩,h⟩
def Pv(O:bQ)(b:cX)(Q:Exit→Env→SK→Prop)(_m:Mark b:=.mk)(_m':Mark Q:=.mk):Exit→Env→SK→Prop
 |.normal,e,σ=>WC O b e σ Q
 |.exit i,e,σ=>Q (.exit i) e σ
 |.ret,e,σ=>Q .ret e σ
 |.fX d,e,σ=>Q (.fX d) e σ
@[simp,simp ↓] theorem avU{b:cX}{d:D}:Pv O b Q .mk .mk (.fX d) e σ=Q (.fX d) e σ:=aE rfl
@[simp,simp ↓] theorem aj1{b:cX}:Pv O b Q .mk .mk .normal e σ=WC O b e σ Q:=aE rfl
@[simp,simp ↓] theorem au7{b:cX}{i:Nat}:Pv O b Q .mk .mk (.exit i) e σ=Q (.exit i) e σ:=aE rfl
@[simp,simp ↓] theorem avT{b:cX}:Pv O b Q .mk .mk .ret e σ=Q .ret e σ:=aE rfl
@[simp,simp ↓] theorem aAK{a b:cX}:WC O (.seq a b) e σ Q=WC O a e σ (Pv O b Q .mk .mk):=by
 simp only[WC,aY,ah,eq_iff_iff];constructor
 ·rintro⟨x,e',σ',⟨⟨x1,e1,σ1⟩,h1,h2⟩,h⟩;refine⟨x1,e1,σ1,h1,?_⟩;cases x1 with
  |normal=>exact⟨x,e',σ',h2,h⟩
  |exit i=>cases h2;exact h
  |ret=>cases h2;exact h
  |fX d=>cases h2;exact h
 ·rintro⟨x1,e1,σ1,h1,h⟩;cases x1 with
  |normal=>obtain⟨x,e',σ',h2,h3⟩:=h;exact⟨x,e',σ',⟨_,h1,h2⟩,h3⟩
  |exit i=>exact⟨_,_,_,⟨_,h1,rfl⟩,h⟩
  |ret=>exact⟨_,_,_,⟨_,h1,rfl⟩,h⟩
  |fX d=>exact⟨_,_,_,⟨_,h1,rfl⟩,h⟩
@[simp,simp ↓] theorem aAG{c:bM}{a b:cX}:WC O (.ite c a b) e σ Q=WD (N9 (bj e c)) fun t=>if t=true then WC O a e σ Q else WC O b e σ Q:=by
 simp only[WC,aY];cases bj e c<;>simp[N9];rename_i t;cases t<;>simp
def QA(id:Nat)(Q:Exit→Env→SK→Prop)(_m:Mark Q:=.mk):Exit→Env→SK→Prop
 |.normal,e,σ=>Q .normal e σ
 |.exit i,e,σ=>if i=id then Q .normal e σ else Q (.exit i) e σ
 |.ret,e,σ=>Q .ret e σ
 |.fX d,e,σ=>Q (.fX d) e σ
@[simp,simp ↓] theorem ayx{id:Nat}{d:D}:QA id Q .mk (.fX d) e σ=Q (.fX d) e σ:=aE rfl
@[simp,simp ↓] theorem ao0{id:Nat}:QA id Q .mk .normal e σ=Q .normal e σ:=aE rfl
@[simp,simp ↓] theorem avD{id i:Nat}:QA id Q .mk (.exit i) e σ=if i=id then Q .normal e σ else Q (.exit i) e σ:=aE rfl
@[simp,simp ↓] theorem ayw{id:Nat}:QA id Q .mk .ret e σ=Q .ret e σ:=aE rfl
@[simp,simp ↓] theorem aAE{id:Nat}{a:cX}:WC O (.bD id a) e σ Q=WC O a e σ (QA id Q .mk):=by
 simp only[WC,aY,ad,eq_iff_iff];constructor
 ·rintro⟨x,e',σ',⟨⟨x1,e1,σ1⟩,h1,h2⟩,h⟩;refine⟨x1,e1,σ1,h1,?_⟩;cases x1 with
  |normal=>cases h2;exact h
  |exit i =>
   simp only[QA];dsimp only at h2;split at h2<;>cases h2
   ·rw[if_pos (by assumption)];exact h
   ·rw[if_neg (by assumption)];exact h
  |ret=>cases h2;exact h
  |fX d=>cases h2;exact h
 ·rintro⟨x1,e1,σ1,h1,h⟩;cases x1 with
  |normal=>exact⟨_,_,_,⟨_,h1,rfl⟩,h⟩
  |exit i =>
   simp only[QA]at h;split at h
   ·exact⟨_,_,_,⟨_,h1,by dsimp only;rw[if_pos (by assumption)]⟩,h⟩
   ·exact⟨_,_,_,⟨_,h1,by dsimp only;rw[if_neg (by assumption)]⟩,h⟩
  |ret=>exact⟨_,_,_,⟨_,h1,rfl⟩,h⟩
  |fX d=>exact⟨_,_,_,⟨_,h1,rfl⟩,h⟩
theorem Uq(d:D):d.calm.calm=d.calm:=by cases d<;>rfl
theorem Lh{live:List Nat}{e:Env}{t:Nat}:get (restrict live e) t=if t∈live then(get e t).calm else .undef:=by
 induction live with
 |nil=>simp[restrict,get]
 |cons a l ih =>
  simp only[restrict,aQ,get,bf];by_cases h:a=t
  ·subst h;simp
  ·have h':¬t=a:=fun x=>h x.symm
   simp only[if_neg h,h',false_or];exact ih
theorem yH{live:List Nat}{e:Env}:restrict live (restrict live e)=restrict live e:=by
 simp only[restrict,List.map_inj_left,an,true_and];intro t ht;have:=Lh (live:=live) (e:=e) (t:=t);simp only[restrict]at this;rw[this,if_pos ht,Uq]
theorem wE{live:List Nat}{bA:Bool}{c:cX}:dw T O (.loop live bA c (restrict live e) σ)=dw T O (.loop live bA c e σ):=by
 simp only[dw,yH]
theorem yB{live:List Nat}{bA:Bool}{c:cX}{r:R}(h:bx T (.loop live bA c (restrict live e) σ)=some r):bx T (.loop live bA c e σ)=some r:=by
 obtain⟨n,h⟩:=dG.1 h;cases n with
 |zero=>cases h
 |succ n =>
  rw[it,wE]at h;exact dG.2 ⟨n+1,h⟩
theorem Fb{live:List Nat}{bA:Bool}{c:cX}{r:R}(h:bx T (.loop live bA c e σ)=some r):bx T (.loop live bA c (restrict live e) σ)=some r:=by
 obtain⟨n,h⟩:=dG.1 h;cases n with
 |zero=>cases h
 |succ n =>
  rw[it,← wE]at h;exact dG.2 ⟨n+1,h⟩
theorem Qb{r:Option R}{x:Exit}{e:Env}{σ:SK}(h:R.Ur r=some (x,e,σ)):r=some (.Eb x e σ):=by
 unfold R.Ur at h;split at h
 ·cases h;rfl
 ·cases h
@[simp,simp ↓] theorem azL{live:List Nat}{bA:Bool}{c:cX}:WC (bx T) (.loop live bA c) e σ Q=WL T live bA c (restrict live e) σ Q:=by
 simp only[WC,aY,WL,eq_iff_iff];constructor
 ·rintro⟨x,e',σ',h1,h⟩;cases hl:bx T (.loop live bA c e σ)with
  |none=>rw[hl]at h1;cases h1
  |some r =>
   rw[hl]at h1;cases r<;>cases h1;exact⟨_,_,_,Fb hl,h⟩
 ·rintro⟨x,e',σ',h1,h⟩;exact⟨x,e',σ',by rw[yB h1];rfl,h⟩
def O8(T:yZ)(live:List Nat)(c:cX)(Q:Exit→Env→SK→Prop)(_m:Mark c:=.mk)(_m':Mark Q:=.mk):Exit→Env→SK→Prop
 |.normal,e,σ=>WL T live false c (restrict live e) σ Q
 |.exit i,e,σ=>Q (.exit i) e σ
 |.ret,e,σ=>Q .ret e σ
 |.fX d,e,σ=>Q (.fX d) e σ
@[simp,simp ↓] theorem avB{live:List Nat}{c:cX}{d:D}:O8 T live c Q .mk .mk (.fX d) e σ=Q (.fX d) e σ:=aE rfl
@[simp,simp ↓] theorem aju{live:List Nat}{c:cX}:O8 T live c Q .mk .mk .normal e σ=WL T live false c (restrict live e) σ Q:=aE rfl
@[simp,simp ↓] theorem at1{live:List Nat}{c:cX}{i:Nat}:O8 T live c Q .mk .mk (.exit i) e σ=Q (.exit i) e σ:=aE rfl
@[simp,simp ↓] theorem avA{live:List Nat}{c:cX}:O8 T live c Q .mk .mk .ret e σ=Q .ret e σ:=aE rfl
theorem aO{live:List Nat}{c c':cX}(hc:c=c')(h:WC (bx T) c' (restrict live e) σ (O8 T live c Q .mk .mk)):WL T live false c e σ Q:=by
 rw[← hc]at h;obtain⟨x,e1,σ1,h1,h2⟩:=h;cases x with
 |normal =>
  obtain⟨x,e',σ',h3,h4⟩:=h2;exact⟨x,e',σ',hJ (by simp[dw,h1,yB h3]),h4⟩
 |exit i=>exact⟨_,_,_,hJ (by simp[dw,h1]),h2⟩
 |ret=>exact⟨_,_,_,hJ (by simp[dw,h1]),h2⟩
 |fX d=>exact⟨_,_,_,hJ (by simp[dw,h1]),h2⟩
def Uy(σ:SK)(res:List Fu)(d:D)(x:Exit)(e:Env)(σ1:SK):Prop :=
 (∀i,x ≠ .exit i)∧(∀d,x ≠ .fX d)∧∃ds,zY e σ1 res=some ds∧∃s,cG (σ.length-1) deep (uf ds) σ1=(d,s::σ)
@[simp,simp ↓] theorem akh{σ1:SK}{res:List Fu}{d:D}:Uy σ res d .normal e σ1=∃ds,zY e σ1 res=some ds∧∃s,cG (σ.length-1) deep (uf ds) σ1=(d,s::σ):=by simp[Uy]
@[simp,simp ↓] theorem awC{σ1:SK}{res:List Fu}{d:D}:Uy σ res d .ret e σ1=∃ds,zY e σ1 res=some ds∧∃s,cG (σ.length-1) deep (uf ds) σ1=(d,s::σ):=by simp[Uy]
theorem aA{f:Nat}{fn:Fn}{args:List D}{σ:SK}{d:D}{np:Nat}{res:List Fu}{body:cX}(hT:T f=some fn)(hf:fn=⟨np,res,body⟩)(hl:args.length=np)
  (h:WC (bx T) body (nw 0 args) ([]::σ) (Uy σ res d)):
  bx T (.call false f args σ)=some (.val d σ):=by
 subst hf;obtain⟨x,e1,σ1,h1,h2,h2',ds,h3,s,h4⟩:=h;refine hJ ?_;simp only[dw,hT,if_pos hl,az,if_false,h1];cases x with
 |exit i=>exact absurd rfl (h2 i)
 |fX d=>exact absurd rfl (h2' d)
 |normal=>simp[h3,h4]
 |ret=>simp[h3,h4]
def aqg(σ:SK)(d:D)(x:Exit)(e:Env)(σ1:SK):Prop:=x=.fX d∧d.clean=true∧∃s,σ1=s::σ
@[simp,simp ↓] theorem awD{σ1:SK}{d d':D}:aqg σ d (.fX d') e σ1=(d'=d∧d.clean=true∧∃s,σ1=s::σ):=by simp[aqg]
theorem eg{f:Nat}{fn:Fn}{args:List D}{σ:SK}{d:D}{np:Nat}{res:List Fu}{body:cX}(hT:T f=some fn)(hf:fn=⟨np,res,body⟩)(hl:args.length=np)
  (h:WC (bx T) body (nw 0 args) ([]::σ) (aqg σ d)):
  bx T (.call false f args σ)=some (.fX d σ):=by
 subst hf;obtain⟨x,e1,σ1,h1,rfl,hc,s,rfl⟩:=h;refine hJ ?_;simp only[dw,hT,if_pos hl,az,if_false,h1];simp[QZ,hc]
def WR(r:Option R)(Qn Qt:D→SK→Prop)(_m:Mark Qn:=.mk)(_m':Mark Qt:=.mk):Prop:=(∃d σ',r=some (.val d σ')∧Qn d σ')∨∃d σ',r=some (.fX d σ')∧Qt d σ'
@[simp,simp ↓] theorem ap1{d:D}{σ':SK}{Qn Qt:D→SK→Prop}:WR (some (.val d σ')) Qn Qt=Qn d σ':=by
 simp only[WR,ae,R.val.injEq,reduceCtorEq,false_and,exists_false,or_false,eq_iff_iff];exact⟨fun⟨_,_,⟨h1,h2⟩,h⟩=>by subst h1 h2;exact h,fun h=>⟨_,_,⟨rfl,rfl⟩,h⟩⟩
@[simp,simp ↓] theorem ap0{d:D}{σ':SK}{Qn Qt:D→SK→Prop}:WR (some (.fX d σ')) Qn Qt=Qt d σ':=by
 simp only[WR,ae,R.fX.injEq,reduceCtorEq,false_and,exists_false,false_or,eq_iff_iff];exact⟨fun⟨_,_,⟨h1,h2⟩,h⟩=>by subst h1 h2;exact h,fun h=>⟨_,_,⟨rfl,rfl⟩,h⟩⟩
def aub:D→Option D
 |.ud t d=>if d.clean then some (.ud t d)else none
 |_=>none
@[simp] theorem O9{t:Nat}{d:D}:aub (.ud t d)=if d.clean then some (.ud t d)else none:=aE rfl
@[simp] theorem awx{O:bQ}{f:Nat}{first cap args:List D}{σ:SK}:Ba O (.fn f first cap) args σ=O (.call false f (first++args++cap) σ):=aE rfl
@[simp,simp ↓] theorem aiT{live:List Nat}{pre post:List Op}{dst:Option Nat}{n:Bool}{f:bM}{args:List bM}:WC O (.iT live pre ⟨dst,none,n,.call false f args⟩ post) e σ Q =
  WO O pre e σ fun e1 σ1=>WR (Ba O (bj e1 f) (args.map (bj e1)) σ1) (fun d σ2=>WO O post (put dst d e1) σ2 fun e' σ'=>Q .normal (restrict live e') σ') (fun d σ2=>Q (.fX d) e1 σ2):=by
 simp only[WC,WO,aY,IH,ah,eq_iff_iff];constructor
 ·rintro⟨x,e',σ',⟨⟨e1,σ1⟩,h1,h2⟩,h⟩;refine⟨e1,σ1,h1,?_⟩;dsimp only at h2;cases hc:Ba O (bj e1 f) (args.map (bj e1)) σ1 with
  |none=>rw[hc]at h2;simp[uG]at h2
  |some r =>
   rw[hc]at h2;cases r with
   |Eb=>simp[uG]at h2
   |fX d σ2=>simp only[uG,ae,an]at h2;obtain⟨rfl,rfl,rfl⟩:=h2;rw[ap0];exact h
   |val d σ2 =>
    simp only[uG,ad]at h2;obtain⟨⟨e3,σ3⟩,h3,h4⟩:=h2;cases h4;rw[ap1];exact⟨e3,σ3,h3,h⟩
 ·rintro⟨e1,σ1,h1,h⟩;rcases h with⟨d,σ2,h2,e3,σ3,h3,h4⟩ | ⟨d,σ2,h2,h4⟩
  ·exact⟨.normal,_,σ3,⟨(e1,σ1),h1,by simp only[h2,uG,h3,aU]⟩,h4⟩
  ·exact⟨.fX d,e1,σ2,⟨(e1,σ1),h1,by simp only[h2,uG]⟩,h4⟩
@[simp,simp ↓] theorem ake{live:List Nat}{pre post:List Op}{dst:Option Nat}{n:Bool}{x:bM}:WC O (.iT live pre ⟨dst,none,n,.PC x⟩ post) e σ Q =
  WO O pre e σ fun e1 σ1=>WD (aub (bj e1 x)) fun d=>Q (.fX d) e1 σ1:=by
 simp only[WC,WO,aY,IH,ah,eq_iff_iff];constructor
 ·rintro⟨x',e',σ',⟨⟨e1,σ1⟩,h1,h2⟩,h⟩;refine⟨e1,σ1,h1,?_⟩;dsimp only at h2;cases hx:bj e1 x<;>rw[hx]at h2<;>try (cases h2;done)
  dsimp only at h2;split at h2
  ·rename_i hc;cases h2;simp only[O9,hc,if_true,FJ];exact h
  ·cases h2
 ·rintro⟨e1,σ1,h1,d,h2,h⟩;refine⟨.fX d,e1,σ1,⟨(e1,σ1),h1,?_⟩,h⟩;dsimp only;cases hx:bj e1 x<;>rw[hx]at h2<;>try (cases h2;done)
  simp only[O9]at h2;split at h2
  ·rename_i hc;cases h2;simp[hc]
  ·cases h2
def WM(T:yZ)(live:List Nat)(it:bM)(nx ok b:Nat)(c rest:cX)(e:Env)(σ:SK)(Q:Exit→Env→SK→Prop)(_m:Mark c:=.mk)(_m':Mark rest:=.mk)(_m'':Mark Q:=.mk):Prop:=∃x e' σ',bx T (.jJ live it nx ok b c rest e σ)=some (.Eb x e' σ')∧Q x e' σ'
theorem WM.mono{live:List Nat}{it:bM}{nx ok b:Nat}{c rest:cX}{Q':Exit→Env→SK→Prop}(h:WM T live it nx ok b c rest e σ Q)(hq:∀x e σ,Q x e σ→Q' x e σ):WM T live it nx ok b c rest e σ Q' :=
 let ⟨x,e',σ',h1,h2⟩:=h;⟨x,e',σ',h1,hq _ _ _ h2⟩
theorem vX{live:List Nat}{it:bM}{nx ok b:Nat}{c rest:cX}:dw T O (.jJ live it nx ok b c rest (restrict live e) σ)=dw T O (.jJ live it nx ok b c rest e σ):=by
 simp only[dw,yH]
theorem sV{live:List Nat}{it:bM}{nx ok b:Nat}{c rest:cX}{r:R}:bx T (.jJ live it nx ok b c rest (restrict live e) σ)=some r↔bx T (.jJ live it nx ok b c rest e σ)=some r:=by
 constructor<;>intro h<;>obtain⟨n,h⟩:=dG.1 h<;>cases n<;>first | (cases h;done) | skip
 ·rw[Abs.it,vX]at h;exact dG.2 ⟨_+1,h⟩
 ·rw[Abs.it,← vX]at h;exact dG.2 ⟨_+1,h⟩
@[simp,simp ↓] theorem awb{live:List Nat}{it:bM}{nx ok b:Nat}{c rest:cX}:WC (bx T) (.jJ live it nx ok b c rest) e σ Q=WM T live it nx ok b c rest (restrict live e) σ Q:=by
 simp only[WC,aY,WM,eq_iff_iff];constructor
 ·rintro⟨x,e',σ',h1,h⟩;exact⟨_,_,_,sV.2 (Qb h1),h⟩
 ·rintro⟨x,e',σ',h1,h⟩;exact⟨x,e',σ',by rw[sV.1 h1];rfl,h⟩
def LY(T:yZ)(live:List Nat)(it:bM)(l i nx ok b:Nat)(c rest:cX)(r:R)(_m:Mark c:=.mk)(_m':Mark rest:=.mk):Exit→Env→SK→Prop
 |.normal,e,σ=>bx T (.jJ live it nx ok b c rest (restrict live e) σ)=some r
 |.exit j,e,σ=>if j=b then WC (bx T) rest e (aW σ l i .dead) fun x e' σ'=>r=.Eb x e' σ' else r=.Eb (.exit j) e (aW σ l i .dead)
 |.ret,e,σ=>r=.Eb .ret e (aW σ l i .dead)
 |.fX _,_,_=>False
@[simp,simp ↓] theorem ajv{live:List Nat}{it:bM}{l i nx ok b:Nat}{c rest:cX}{r:R}:LY T live it l i nx ok b c rest r .mk .mk .normal e σ=(bx T (.jJ live it nx ok b c rest (restrict live e) σ)=some r):=aE rfl
@[simp,simp ↓] theorem Qx{live:List Nat}{it:bM}{l i nx ok b j:Nat}{c rest:cX}{r:R}:LY T live it l i nx ok b c rest r .mk .mk (.exit j) e σ=if j=b then WC (bx T) rest e (aW σ l i .dead) fun x e' σ'=>r=.Eb x e' σ' else r=.Eb (.exit j) e (aW σ l i .dead):=aE rfl
@[simp,simp ↓] theorem UY{live:List Nat}{it:bM}{l i nx ok b:Nat}{c rest:cX}{r:R}:LY T live it l i nx ok b c rest r .mk .mk .ret e σ=(r=.Eb .ret e (aW σ l i .dead)):=aE rfl
theorem M3{l i b:Nat}{rest:cX}{r:R}{x:Exit}{e1:Env}{σ1:SK}{live:List Nat}{it:bM}{nx ok:Nat}{c:cX}(hx:x ≠ .normal)(h:LY T live it l i nx ok b c rest r .mk .mk x e1 σ1):xE (bx T) l i b rest (some (x,e1,σ1))=some r:=by
 cases x with
 |normal=>exact absurd rfl hx
 |fX d=>exact h.elim
 |ret=>simp only[UY]at h;subst h;rfl
 |exit j =>
  simp only[Qx]at h;simp only[xE];split at h
  ·rename_i hj;obtain⟨x',e',σ',h1,rfl⟩:=h;rw[if_pos hj,h1];rfl
  ·rename_i hj;subst h;rw[if_neg hj]
theorem ahi{live:List Nat}{it:bM}{l i nx ok b:Nat}{c c' rest rest':cX}{r:R}{m:D}{n:Nat}{js:List D}{us:List Nat}(hcc:c=c')(hrr:rest=rest')(hit:bj (restrict live e) it=.mB l i)(hd:Ie σ l i=some (m,n,js,us))(hne:us≠[])
  (h:∀u∈us,WC (bx T) c' ((ok,.bool true)::(nx,.undef)::restrict live e) (aW σ l i (.cells 1 (m::.int .i64 (n:Nat)::.int .i64 (u:Nat)::js))) (LY T live it l i nx ok b c rest' r .mk .mk)):
  bx T (.jJ live it nx ok b c rest e σ)=some r:=by
 subst hcc hrr;refine hJ ?_;simp only[dw,hit,hd];have key:∀u∈us,Bf (bx T) live it l i nx ok b c rest (aY (bx T) c ((ok,.bool true)::(nx,.undef)::restrict live e) (aW σ l i (.cells 1 (m::.int .i64 (n:Nat)::.int .i64 (u:Nat)::js))))=some r:=by
  intro u hu;obtain⟨x,e1,σ1,h1,h2⟩:=h u hu;rw[h1];cases x with
  |normal=>exact sV.1 h2
  |exit j=>exact M3 (x:=.exit j) (by simp) h2
  |ret=>exact M3 (x:=.ret) (by simp) h2
  |fX d=>exact h2.elim
 cases us with
 |nil=>exact absurd rfl hne
 |cons u us=>exact Lw (by simp) key
theorem UU{live:List Nat}{it:bM}{l i nx ok b:Nat}{c c' rest rest':cX}{r:R}{m:D}{n:Nat}{js:List D}(hcc:c=c')(hrr:rest=rest')(hit:bj (restrict live e) it=.mB l i)(hd:Ie σ l i=some (m,n,js,[]))
  (h:WC (bx T) c' ((ok,.bool false)::(nx,.undef)::restrict live e) σ fun x e1 σ1=>x ≠ .normal∧LY T live it l i nx ok b c rest' r .mk .mk x e1 σ1):
  bx T (.jJ live it nx ok b c rest e σ)=some r:=by
 subst hcc hrr;refine hJ ?_;simp only[dw,hit,hd];obtain⟨x,e1,σ1,h1,hx,h2⟩:=h;rw[h1];exact M3 hx h2
def au6:Exit→Option (Option D)
 |.normal=>some none
 |.ret=>some none
 |.fX d=>some (some d)
 |.exit _=>none
@[simp] theorem azk:au6 .ret=some none:=aE rfl
@[simp] theorem azl{d:D}:au6 (.fX d)=some (some d):=aE rfl
noncomputable def we(T:yZ)(fv:D)(args:List D)(th:Option D)(σ:SK):Option SK :=
 match qX (bx T) fv args th σ with
 |some (.val _ σ')=>some σ'
 |_=>none
theorem uX{f:Nat}{first cap args:List D}{th:Option D}{σ σ':SK}{d:D}(h:bx T (.yh f (first++args++cap) th σ)=some (.val d σ')):we T (.fn f first cap) args th σ=some σ':=by
 simp only[we,qX,h]
def BK(T:yZ)(fv:D)(args:List D)(σ:SK)(res:List Fu)(d:D)(x:Exit)(e:Env)(σ1:SK):Prop :=
 WD (au6 x) fun th=>WD (we T fv args th σ1) fun σ2=>∃ds,zY e σ2 res=some ds∧∃s,cG (σ.length-1) deep (uf ds) σ2=(d,s::σ)
def Nw(T:yZ)(f:bM)(args:List bM)(q:cX)(σ:SK)(res:List Fu)(d:D)(x:Exit)(e:Env)(σ1:SK)(_m:Mark q:=.mk):Prop :=
 x=.normal∧WC (bx T) q e σ1 (BK T (bj e f) (args.map (bj e)) σ res d)
theorem Oc{f:Nat}{fn:Fn}{args:List D}{σ:SK}{d:D}{np:Nat}{res:List Fu}{body A q:cX}{fo:bM}{as:List bM}(hT:T f=some fn)(hf:fn=⟨np,res,body⟩)(hl:args.length=np)(hs:jH body=some (A,fo,as,q))
  (h:WC (bx T) A (nw 0 args) ([]::σ) (Nw T fo as q σ res d)):
  bx T (.call false f args σ)=some (.val d σ):=by
 subst hf;obtain⟨x,e1,σ1,h1,rfl,x2,e2,σ2,h2,th,h3,σ3,h4,ds,h5,s,h6⟩:=h;refine hJ ?_;have hn:aY (bx T) body (nw 0 args) ([]::σ)=none:=yJ hs h1;simp only[dw,hT,if_pos hl,az,if_false,hn,hs,zJ,h1,h2];have h4':∃dv,qX (bx T) (bj e1 fo) (as.map (bj e1)) th σ2=some (.val dv σ3):=by
  unfold we at h4;split at h4
  ·rename_i h7;cases h4;exact⟨_,h7⟩
  ·cases h4
 obtain⟨dv,h4'⟩:=h4';cases x2 with
 |exit i=>cases h3
 |normal=>cases h3;simp only[zL,h4',uZ,leave,h5,h6]
 |ret=>cases h3;simp only[zL,h4',uZ,leave,h5,h6]
 |fX d=>cases h3;simp only[zL,h4',uZ,leave,h5,h6]
def aqh(σ':SK)(res:List Fu)(x:Exit)(e:Env)(σ1:SK):Prop :=
 (∀i,x ≠ .exit i)∧(∀d,x ≠ .fX d)∧zY e σ1 res=some []∧∃s,σ1=s::σ'
@[simp,simp ↓] theorem akj{σ' σ1:SK}{res:List Fu}:aqh σ' res .normal e σ1=(zY e σ1 res=some []∧∃s,σ1=s::σ'):=by simp[aqh]
theorem Cr{f:Nat}{fn:Fn}{args:List D}{th:Option D}{σ σ':SK}{np:Nat}{res:List Fu}{body q:cX}{e0:Env}(hT:T f=some fn)(hf:fn=⟨np,res,body⟩)(hl:args.length=np)(hr:rZ th args body=some (e0,q))
  (h:WC (bx T) q e0 ([]::σ) (aqh σ' res)):bx T (.yh f args th σ)=some (.val (.dM []) σ'):=by
 subst hf;obtain⟨x,e1,σ1,h1,h2,h2',h3,s,rfl⟩:=h;refine hJ ?_;simp only[dw,hT,if_pos hl,hr,h1];cases x with
 |exit i=>exact absurd rfl (h2 i)
 |fX d=>exact absurd rfl (h2' d)
 |normal=>simp[h3]
 |ret=>simp[h3]
end code
@[simp] theorem aye{k t:Nat}{v:D}{r:Env}:get ((k,v)::r) t=if k=t then v else get r t:=aE rfl
@[simp] theorem ayz{t:Nat}{v:D}{e:Env}:put (some t) v e=(t,v)::e:=aE rfl
@[simp] theorem ayy{v:D}{e:Env}:put none v e=e:=aE rfl
@[simp] theorem ayv{e:Env}{n:Nat}:bj e (.t n)=(get e n).strip:=aE rfl
@[simp] theorem aCy{e:Env}{d:D}:bj e (.c d)=d:=aE rfl
@[simp] theorem ajF{e:Env}:restrict [] e=[]:=aE rfl
@[simp] theorem aia{t:Nat}{l:List Nat}{e:Env}:restrict (t::l) e=(t,(get e t).calm)::restrict l e:=aE rfl
@[simp] theorem avw{n:Nat}:nw n []=[]:=aE rfl
@[simp] theorem atW{n:Nat}{d:D}{ds:List D}:nw n (d::ds)=(n,d)::nw (n+1) ds:=aE rfl
section
variable {e:Env} {σ:SK}
@[simp] theorem ayF:zY e σ []=some []:=aE rfl
@[simp] theorem avQ{r:Fu}{rs:List Fu}:zY e σ (r::rs)=(Kj e σ r).bind fun d=>(zY e σ rs).map fun ds=>d::ds:=aE rfl
@[simp] theorem aBw{n:Nat}:Kj e σ (.t n)=some (get e n).strip:=aE rfl
@[simp] theorem aBv{n sz:Nat}{ag:Bool}:Kj e σ (.c n ag sz)=PB ag sz (HH σ (get e n).strip):=by
 simp only[Kj,bN,ayv];cases HH σ (get e n).strip with
 |none=>rfl
 |some cs =>
  simp only[PB];split
  ·cases ag
   ·cases cs<;>rfl
   ·rfl
  ·rfl
@[simp] theorem aBx{n sz:Nat}{ag:Bool}:Kj e σ (.v n ag sz)=ag6 e n ag sz n:=by
 simp only[Kj,bN,ag6];cases rR e n n with
 |none=>rfl
 |some x =>
  obtain⟨s,cs,off⟩:=x;simp only[PB,aU];split
  ·cases ag
   ·cases cs.drop off<;>rfl
   ·rfl
  ·rfl
@[simp] theorem avy{d:D}:uf [d]=d:=aE rfl
@[simp] theorem avx:uf []=.dM []:=aE rfl
@[simp] theorem avz{d d':D}{ds:List D}:uf (d::d'::ds)=.dM (d::d'::ds):=aE rfl
@[simp] theorem avk{cs:List D}:rQ e [] cs=some cs:=aE rfl
@[simp] theorem atL{off sz:Nat}{x:bM}{r:List (Nat×Nat×bM)}{cs:List D}:rQ e ((off,sz,x)::r) cs =
  ((bj e x).cells.bind fun p=>if p.length=sz∧off+sz≤cs.length then some (cs.take off++p++cs.drop (off+sz))else none).bind (rQ e r):=by
 simp only[rQ];cases(bj e x).cells with
 |none=>rfl
 |some p=>dsimp only [Option.bind_some];split<;>rfl
@[simp] theorem avf{w:Nat}{s:List UInt8}:elems σ w (.str s)=if w=1 then some (s.length,strCells s)else none:=aE rfl
@[simp] theorem ave{w n:Nat}{cs:List D}:elems σ w (.aI n cs)=if cs.length=n*w then some (n,cs)else none:=aE rfl
end
attribute [simp] bN MI kV ij rR uq au4 ag6 C4 bounds D.row cells? ej gr aW iI
@[simp] theorem ao4{b:Bool}:D.clean (.bool b)=true:=by rw[D.clean]
@[simp] theorem auq{k:IntKind}{n:Int}:D.clean (.int k n)=true:=by rw[D.clean]
@[simp] theorem aus{s:List UInt8}:D.clean (.str s)=true:=by rw[D.clean]
@[simp] theorem ao7:D.clean .aG=true:=by rw[D.clean]
@[simp] theorem aup{t:Nat}{d:D}:D.clean (.ud t d)=D.clean d:=by rw[D.clean]
@[simp] theorem ao6:D.clean .iS=true:=by rw[D.clean]
@[simp] theorem avP{l i v o n w:Nat}:D.clean (.sl l i v o n w)=false:=by rw[D.clean]
@[simp] theorem auo{cs:List D}:D.clean (.agg cs)=D.bC cs:=by rw[D.clean]
@[simp] theorem aut{cs:List D}:D.clean (.dM cs)=D.bC cs:=by rw[D.clean]
@[simp] theorem ao5{cs:List D}:D.clean (.bI cs)=D.bC cs:=by rw[D.clean]
@[simp] theorem aur{n:Nat}{cs:List D}:D.clean (.aI n cs)=D.bC cs:=by rw[D.clean]
@[simp] theorem avO{f:Nat}{a b:List D}:D.clean (.fn f a b)=(D.bC a && D.bC b):=by rw[D.clean]
@[simp] theorem ap9:D.bC []=true:=by rw[D.bC]
@[simp] theorem akg{d:D}{ds:List D}:D.bC (d::ds)=(D.clean d && D.bC ds):=by rw[D.bC]
@[simp] theorem Wt:deep=16:=aE rfl
@[simp] theorem ju{l n:Nat}{d:D}{σ:SK}(h:d.clean=true)(hn:0<n):cG l n d σ=(d,σ):=by
 obtain⟨m,rfl⟩:∃m,n=m+1:=⟨n-1,by omega⟩;unfold cG;simp[h]
@[simp] theorem atM{l n:Nat}{ds:List D}{σ:SK}(h:D.bC ds=true)(hn:0<n):cG.frzL (cG l n) ds σ=(ds,σ):=by
 induction ds generalizing σ with
 |nil=>rfl
 |cons d ds ih =>
  simp only[D.bC,af]at h;simp[cG.frzL,h.1,ih h.2,hn]
@[simp] theorem zR{f:D→SK→D×SK}{σ:SK}:cG.frzL f [] σ=([],σ):=aE rfl
@[simp] theorem wZ{f:D→SK→D×SK}{d:D}{ds:List D}{σ:SK}:cG.frzL f (d::ds) σ=((f d σ).1::(cG.frzL f ds (f d σ).2).1,(cG.frzL f ds (f d σ).2).2):=aE rfl
theorem Da{l n:Nat}{ds:List D}{σ:SK}(h:D.bC ds=false)(hn:0<n):cG l n (.dM ds) σ=(.dM (cG.frzL (cG l (n-1)) ds σ).1,(cG.frzL (cG l (n-1)) ds σ).2):=by
 obtain⟨m,rfl⟩:∃m,n=m+1:=⟨n-1,by omega⟩
 conv=>lhs;unfold cG
 simp[D.clean,h]
theorem Tf{l n:Nat}{ds:List D}{σ:SK}(h:D.bC ds=false)(hn:0<n):cG l n (.agg ds) σ=(.agg (cG.frzL (cG l (n-1)) ds σ).1,(cG.frzL (cG l (n-1)) ds σ).2):=by
 obtain⟨m,rfl⟩:∃m,n=m+1:=⟨n-1,by omega⟩
 conv=>lhs;unfold cG
 simp[D.clean,h]
theorem E7{l n l' i v off m w:Nat}{σ:SK}{cs:List D}(h:¬l'≤l)(hc:cells? σ l' i v=some cs)(hn:0<n):
  cG l n (.sl l' i v off m w) σ=(.aI m (cG.frzL (cG l (n-1)) ((cs.drop off).take (m*w)) (aW σ l' i .dead)).1,(cG.frzL (cG l (n-1)) ((cs.drop off).take (m*w)) (aW σ l' i .dead)).2):=by
 obtain⟨m,rfl⟩:∃m,n=m+1:=⟨n-1,by omega⟩
 conv=>lhs;unfold cG
 simp only[D.clean,h,hc,az,if_false,Nat.add_sub_cancel]
@[simp] theorem atO{l n l' i v off m w:Nat}{σ:SK}(h:l'≤l)(hn:0<n):cG l n (.sl l' i v off m w) σ=(.sl l' i v off m w,σ):=by
 obtain⟨m,rfl⟩:∃m,n=m+1:=⟨n-1,by omega⟩
 conv=>lhs;unfold cG
 simp only[D.clean,h,if_true,az,if_false]
@[simp] theorem aoR{l n l' i v off:Nat}{σ:SK}(h:l'≤l)(hn:0<n):cG l n (.ref l' i v off) σ=(.ref l' i v off,σ):=by
 obtain⟨m,rfl⟩:∃m,n=m+1:=⟨n-1,by omega⟩
 conv=>lhs;unfold cG
 simp only[D.clean,h,if_true,az,if_false]
@[simp] theorem aBn{n:Nat}:(n+1+1=n)=False:=by simp;omega
@[simp] theorem aBo{n:Nat}:(n+1+1+1=n)=False:=by simp;omega
@[simp] theorem aBp{n:Nat}:(n+1+1+1+1=n)=False:=by simp;omega
@[simp] theorem aBq{n:Nat}:(n+1+1+1+1+1=n)=False:=by simp;omega
theorem D9{a b:List D}:D.bC (a++b)=(D.bC a && D.bC b):=by
 induction a with
 |nil=>rfl
 |cons d a ih=>simp[D.bC,ih,Bool.and_assoc]
end Go.Abs
